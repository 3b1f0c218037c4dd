/- Part 7 of what the proofs lean on: what the functions of the program and of the reference compute. Conditions: none. -/
import Derived.Test.YtfdanoafhehjnaaGreatK05
set_option linter.all false
set_option linter.unusedVariables false
set_option linter.unusedSimpArgs false
set_option maxHeartbeats 2000000
set_option maxRecDepth 100000
namespace Go.Proofs
open Go Go.Ev

theorem rightI_eq (l : List Cls) : (decide (l.length ≤ 10) && decide ((chkI l).2 = 0)) = rightW l := by
  unfold rightW
  rw [← worldCheck_eq]
  by_cases h : 10 < l.length
  · have hc : chkI l = (10, 1) := by unfold chkI; rw [if_pos h]
    rw [hc, decide_eq_false (by omega), Bool.false_and]
    split <;> rfl
  · rw [if_neg (by omega), decide_eq_true (by omega), Bool.true_and]
theorem right_len {l : List Cls} (h : rightW l = true) : l.length ≤ 10 := by
  rw [← rightI_eq, Bool.and_eq_true, decide_eq_true_eq] at h; exact h.1
theorem right_all {l : List Cls} (h : rightW l = true) : (∀ k, k < l.length → pass1 l k = 0) ∧ (∀ k, k < l.length → pass2 l k = 0) ∧ (∀ k, k < l.length → pass3 l k = 0) ∧ (∀ k, k < l.length → pass4 l k = 0) ∧ ∀ k, k < l.length → pass5 l k = 0 := by
  have hlen := right_len h
  simp only [rightW, worldCheck, if_neg (show ¬ 400 < l.length from by omega), if_neg (show ¬ 10 < l.length from by omega), decide_eq_true_eq] at h
  have bad : ∀ (c : Nat → Int) (n i k : Nat) (v : Int), firstBad c n i = some (k, v) → v ≠ 0 := by
    intro c n
    induction n with
    | zero => intro i k v h; simp [firstBad] at h
    | succ n ih =>
      intro i k v h
      simp only [firstBad] at h
      split at h
      · exact ih _ _ _ h
      · cases h; assumption
  unfold checkAll at h
  cases h1 : firstBad (pass1 l) l.length 0 with
  | some p => rw [h1] at h; exact absurd h (bad _ _ _ p.1 p.2 h1)
  | none =>
    rw [h1] at h
    cases h2 : firstBad (pass2 l) l.length 0 with
    | some p => rw [h2] at h; exact absurd h (bad _ _ _ p.1 p.2 h2)
    | none =>
      rw [h2] at h
      cases h3 : firstBad (pass3 l) l.length 0 with
      | some p => rw [h3] at h; exact absurd h (bad _ _ _ p.1 p.2 h3)
      | none =>
        rw [h3] at h
        cases h4 : firstBad (pass4 l) l.length 0 with
        | some p => rw [h4] at h; exact absurd h (bad _ _ _ p.1 p.2 h4)
        | none =>
          rw [h4] at h
          cases h5 : firstBad (pass5 l) l.length 0 with
          | some p => rw [h5] at h; exact absurd h (bad _ _ _ p.1 p.2 h5)
          | none =>
            exact ⟨fun k hk => firstBad_none h1 k (by omega) (by omega), fun k hk => firstBad_none h2 k (by omega) (by omega), fun k hk => firstBad_none h3 k (by omega) (by omega), fun k hk => firstBad_none h4 k (by omega) (by omega), fun k hk => firstBad_none h5 k (by omega) (by omega)⟩
theorem right_P12 {l : List Cls} (h : rightW l = true) : P12 l := fun k hk => ⟨(right_all h).1 k hk, (right_all h).2.1 k hk⟩
theorem right_cyc {l : List Cls} (h : rightW l = true) : ∀ i, i < l.length → cyc l i = false := fun i hi => by
  have := (right_all h).2.2.2.1 i hi
  simp only [pass4] at this
  cases hc : cyc l i
  · rfl
  · rw [hc] at this; simp at this
theorem superI_eq {l : List Cls} (h : P12 l) (n : Str) : superI l n = superOf l n := by
  unfold superOf
  by_cases hb : 0 ≤ builtIx n
  · obtain ⟨hf, e⟩ := super_bIn (fun k hk => (h k hk).1) hb
    rw [e]
    rcases Int.lt_or_le 1 (builtIx n) with h1 | h1
    · have n1 : n ≠ sObject := fun e => by rw [e, bIx_obj.1] at h1; omega
      have n2 : n ≠ sError := fun e => by rw [e, bIx_obj.2.1] at h1; omega
      rw [if_neg n1, if_neg n2, if_neg (by omega), if_neg (by omega), if_pos h1]
    · rcases bIx_cases hb (by omega) with rfl | rfl
      · rw [if_pos rfl, if_pos bIx_obj.1]
      · rw [if_neg (by decide), if_pos rfl, if_neg (by rw [bIx_obj.2.1]; omega), if_pos bIx_obj.2.1]
  · rw [if_neg (by omega), if_neg (by omega), if_neg (by omega)]
    unfold superI
    by_cases hf : 0 ≤ findFrom n l 0
    · rw [if_pos hf, if_neg (by omega)]
      obtain ⟨i, hi, h1, _, h3, _⟩ := clsOf_found hf
      rw [h3, h1]; simp [atL_lt hi]
    · rw [if_neg hf, if_pos (.inl (by simp [bIn]; omega)), if_pos (by omega)]
theorem known_super {l : List Cls} (h : P12 l) {n : Str} (hk : isKnown l n = true) : superI l n = [] ∨ isKnown l (superI l n) = true := by
  simp only [isKnown, Bool.or_eq_true, decide_eq_true_eq] at hk
  by_cases hb : 0 ≤ builtIx n
  · rw [(super_bIn (fun k hk => (h k hk).1) hb).2]
    split
    · exact .inl rfl
    · split
      · exact .inr (known_bIn (by rw [bIx_obj.1]; omega))
      · exact .inr (known_bIn (by rw [bIx_obj.2.1]; omega))
  · obtain ⟨i, hi, e1, e2, e3⟩ := found_name (l := l) (n := n) (by omega)
    rw [e3]
    rcases (super_cls h hi).2 with ⟨_, e | e⟩ | ⟨j, hj, _, e⟩
    · rw [e]; exact .inr (known_bIn (by rw [bIx_obj.1]; omega))
    · rw [e]; exact .inr (known_bIn (by rw [bIx_obj.2.1]; omega))
    · rw [← e]; exact .inr (known_own hj)
theorem ups_ends {l : List Cls} : ∀ {f g : Nat} {k : Int}, Ends l f k → Ends l g k → ups l f k = ups l g k
  | 0, g, k, hf, _ => by rw [ups_neg hf, ups_neg hf]
  | f + 1, 0, k, _, hg => by rw [ups_neg hg, ups_neg hg]
  | f + 1, g + 1, k, hf, hg => by
    by_cases hk : k < 0
    · rw [ups_neg hk, ups_neg hk]
    · rw [ups_pos (by omega), ups_pos (by omega), ups_ends (hf.resolve_left hk) (hg.resolve_left hk)]
/-- how high a name stands -/
def rk (l : List Cls) (n : Str) : Nat := if bIn n then (if n = sObject then 0 else if n = sError then 1 else 2) else 3 + (ups l (l.length + 1) (findFrom n l 0)).length
theorem rk_lt {l : List Cls} (h : P12 l) (hc : ∀ i, i < l.length → cyc l i = false) {n : Str} (hk : isKnown l n = true) (hs : superI l n ≠ []) : rk l (superI l n) < rk l n := by
  have r0 : rk l sObject = 0 := by unfold rk; rw [if_pos (by simp [bIn, bIx_obj.1]), if_pos rfl]
  have r1 : rk l sError = 1 := by unfold rk; rw [if_pos (by simp [bIn, bIx_obj.2.1]), if_neg (by decide), if_pos rfl]
  by_cases hb : 0 ≤ builtIx n
  · have e := (super_bIn (fun k hk => (h k hk).1) hb).2
    rw [e] at hs ⊢
    have hbn : bIn n = true := by simp [bIn, hb]
    by_cases h1 : n = sObject
    · rw [if_pos h1] at hs; exact absurd rfl hs
    · rw [if_neg h1]
      by_cases h2 : n = sError
      · rw [if_pos h2, h2, r0, r1]; omega
      · rw [if_neg h2, r1]; unfold rk; rw [if_pos hbn, if_neg h1, if_neg h2]; omega
  · have hbn : bIn n = false := by simp [bIn]; omega
    simp only [isKnown, Bool.or_eq_true, decide_eq_true_eq] at hk
    obtain ⟨i, hi, e1, e2, e3⟩ := found_name (l := l) (n := n) (by omega)
    have hrn : rk l n = 3 + (ups l (l.length + 1) (i : Int)).length := by unfold rk; rw [if_neg (by simp [hbn]), e1]
    have hu : ups l (l.length + 1) (i : Int) = i :: ups l l.length (nxt l i) := ups_nat
    rw [hrn, hu, e3]
    have hE := ends_of_noCyc hc hi
    obtain ⟨g, hg, hE2⟩ := Ends_nat hE
    obtain rfl : g = l.length := by omega
    rcases (super_cls h hi).2 with ⟨_, e | e⟩ | ⟨j, hj, e4, e⟩
    · rw [e, r0]; omega
    · rw [e, r1]; simp only [List.length_cons]; omega
    · have hjb := name_not_bIn hj (h j hj).1
      have huq := uniq_of_pass1 hj (h j hj).1
      rw [← e]
      have : rk l l[j].name = 3 + (ups l (l.length + 1) (j : Int)).length := by unfold rk; rw [if_neg (by simp [bIn]; omega), huq]
      rw [this, e4]
      rw [e4] at hE2
      rw [ups_ends (ends_of_noCyc hc hj) hE2]
      simp
theorem chn_rk {l : List Cls} (h : P12 l) (hc : ∀ i, i < l.length → cyc l i = false) : ∀ (k : Nat) (n : Str) (o : List Str), rk l n ≤ k → (∀ x ∈ o, rk l n < rk l x) → chn l o n = o ++ chn l [] n
  | k, n, o, hk, ho => by
    by_cases hn : isKnown l n = true
    · have hout : out o n = false := by
        rw [Bool.eq_false_iff]; intro hc; have := ho n (out_iff.1 hc); omega
      rw [chn_go hn hout, chn_go hn (o := []) rfl]
      by_cases hs : superI l n = []
      · rw [hs, chn_stop (by rw [nil_unknown h]; simp), chn_stop (by rw [nil_unknown h]; simp)]; rfl
      · have hlt := rk_lt h hc hn hs
        cases k with
        | zero => omega
        | succ k =>
          rw [chn_rk h hc k (superI l n) (o ++ [n]) (by omega) (fun x hx => by
              rcases List.mem_append.1 hx with hx | hx
              · have := ho x hx; omega
              · rw [List.mem_singleton.1 hx]; exact hlt),
            chn_rk h hc k (superI l n) ([] ++ [n]) (by omega) (fun x hx => by
              rw [List.mem_singleton.1 hx]; exact hlt)]
          simp
    · rw [chn_stop (fun hc => hn hc.1), chn_stop (fun hc => hn hc.1)]; simp
theorem chain_rec {l : List Cls} (h : rightW l = true) {n : Str} (hn : isKnown l n = true) : chain l n = n :: chain l (superI l n) := by
  have hp := right_P12 h
  have hc := right_cyc h
  unfold chain
  rw [chn_go hn rfl]
  by_cases hs : superI l n = []
  · rw [hs, chn_stop (by rw [nil_unknown hp]; simp), chn_stop (by rw [nil_unknown hp]; simp)]; rfl
  · rw [chn_rk hp hc _ _ ([] ++ [n]) (Nat.le_refl _) (fun x hx => by rw [List.mem_singleton.1 hx]; exact rk_lt hp hc hn hs)]
    rfl
theorem chain_no {l : List Cls} {n : Str} (hn : isKnown l n = false) : chain l n = [] := by
  unfold chain; rw [chn_stop]; rw [hn]; simp
/-- the names up from a, as the reference goes -/
def chS (l : List Cls) (a : Str) : List Str := if isKnown l a = true then chain l a else if a = [] then [] else [a]
theorem chS_known {l : List Cls} {a : Str} (h : isKnown l a = true) : chS l a = chain l a := if_pos h
theorem chS_nil {l : List Cls} (h : rightW l = true) : chS l [] = [] := by unfold chS; rw [if_neg (by rw [nil_unknown (right_P12 h)]; simp), if_pos rfl]
theorem chS_go {l : List Cls} (h : rightW l = true) {a : Str} (ha : a ≠ []) : chS l a = a :: chS l (superOf l a) := by
  rw [← superI_eq (right_P12 h)]
  by_cases hk : isKnown l a = true
  · rw [chS_known hk, chain_rec h hk]
    rcases known_super (right_P12 h) hk with e | e
    · rw [e, chS_nil h, chain_no (nil_unknown (right_P12 h))]
    · rw [chS_known e]
  · have : superI l a = [] := by
      simp only [isKnown, Bool.or_eq_true, decide_eq_true_eq] at hk
      unfold superI; rw [if_neg (fun h => hk (.inr h)), if_pos (.inl (by simp [bIn]; omega))]
    rw [this, chS_nil h]; unfold chS; rw [if_neg hk, if_neg ha]
/-- is a the class b, or does it stand on it? -/
def subS (l : List Cls) (a b : Str) : Bool := out (chS l a) b
theorem subS_nil {l : List Cls} (h : rightW l = true) (b : Str) : subS l [] b = false := by unfold subS; rw [chS_nil h]; rfl
theorem subS_go {l : List Cls} (h : rightW l = true) {a b : Str} (ha : a ≠ []) : subS l a b = (decide (b = a) || subS l (superOf l a) b) := by
  unfold subS; rw [chS_go h ha]; rfl
def subW (l : List Cls) (a b : Str) : Bool := decide (a.length ≤ 20000) && (decide (b.length ≤ 20000) && (rightW l && (isKnown l a && (isKnown l b && subS l a b))))
theorem subW_of (l : List Cls) (a b : Str) : (rightW l && (decide (a.length ≤ 20000) && decide (b.length ≤ 20000)) && (isKnown l b && out (chain l a) b)) = subW l a b := by
  unfold subW subS
  cases hr : rightW l
  · simp
  · by_cases hk : isKnown l a = true
    · rw [chS_known hk, hk]
      cases decide (a.length ≤ 20000) <;> cases decide (b.length ≤ 20000) <;> cases isKnown l b <;> simp
    · rw [chain_no (by simpa using hk), Bool.eq_false_iff.2 hk]
      cases decide (a.length ≤ 20000) <;> cases decide (b.length ≤ 20000) <;> cases isKnown l b <;> simp [out]
theorem superOf_le {l : List Cls} {n : Str} : (superOf l n).length ≤ sizeL l + 6 := by
  unfold superOf
  split
  · simp
  · split
    · simp [sObject]
    · split
      · simp [sError]
      · split
        · simp
        · rename_i h
          have hlt := findFrom_lt (l := l) (n := n) (by omega)
          have := sizeL_at hlt
          rw [atL_lt hlt]; simp only [sizeC] at this; omega
end Go.Proofs
namespace Go.Proofs
open Go Go.Ev
/-- a type of the check -/
structure Typ where
  k : Int
  c : Str
  at' : Int
  deriving DecidableEq, Inhabited
def eT (x : Typ) : V := .agg [.int .i64 x.k, .str x.c, .int .i64 x.at']
def sizeT (x : Typ) : Nat := x.c.length
def bigT (x : Typ) : Prop := x.c.length < 4611686018427387904
@[simp] theorem pureL_eT (l : List Typ) : pureL (l.map eT) = true := pureL_map _ (fun _ => rfl) l
@[simp] theorem fzL_eT (l : List Typ) : fzL (l.map eT) = l.map eT := fzL_mapf _ (fun _ => rfl) l
@[simp] theorem jkL_eT (p : Nat → Bool) (l : List Typ) : jkL p (l.map eT) = l.map eT := jkL_mapf p _ (fun _ => rfl) l
attribute [simp] eT
def knownT (l : List Cls) (t : Typ) : Bool := if t.k = 3 ∨ t.k = 5 then isKnown l t.c && decide (t.at' = 0) else if t.k = 6 then isKnown l t.c && decide (0 ≤ t.at' ∧ t.at' ≤ 59) else decide (0 ≤ t.k ∧ t.k ≤ 7) && (decide (t.c = []) && decide (t.at' = 0))
def typeKnownW (l : List Cls) (t : Typ) : Bool := rightW l && knownT l t
end Go.Proofs
namespace Go.Proofs
open Go Go.Ev
def lyA : List Str := [[], [86], [76, 59], [76, 65], [91, 91, 73], [73, 59], [76, 49, 59], [76, 97, 98, 99, 100, 101, 102, 103, 104, 105, 106, 107, 108, 109, 110, 111, 112, 113, 114, 115, 116, 59], [76, 97, 98, 99, 100, 101, 102, 103, 104, 105, 106, 107, 108, 109, 110, 111, 112, 113, 114, 115, 116, 117, 59]]
def lyB : List Str := [[73], [73], [76, 65, 59], [76, 66, 59], [76, 79, 98, 106, 101, 99, 116, 59], [91, 73], [91, 76, 65, 59]]
def ltyV (s : Src) : Str := if nV s 30 = 0 then pickV lyA (nS s 30) else pickV lyB (nS s 30)
def ltyS (s : Src) : Src := if nV s 30 = 0 then nS (nS s 30) 9 else nS (nS s 30) 7
theorem ltyS_ok {s : Src} (hs : okS s) : okS (ltyS s) := by unfold ltyS; split <;> exact nS_ok (nS_ok hs _) _
theorem lty_le (s : Src) : (ltyV s).length ≤ 23 := by
  unfold ltyV; split
  · exact pick_le _ (by decide) (by decide) (by decide)
  · exact pick_le _ (by decide) (by decide) (by decide)
@[simp] theorem nV_nn (s : Src) {m : Int} (hm : m < 9223372036854775808) : (0 ≤ nV s m) = True := eq_true (nV_r s hm).1
@[simp] theorem nV_lt (s : Src) {m : Int} (hm : m < 9223372036854775808) (h1 : 1 < m) : (nV s m < m) = True := eq_true ((nV_r s hm).2.1 h1)
@[simp] theorem nV_3 (s : Src) : ((nV s 3).toNat < 3) = True := by have := nV_r s (m := 3) (by decide); simp only [eq_iff_iff, iff_true]; have := this.2.1 (by decide); omega
theorem at3 (s : Src) : ∃ k : Nat, (nV s 3).toNat = k ∧ k < 3 := ⟨_, rfl, of_eq_true (nV_3 s)⟩
@[simp] theorem tat_3 (s : Src) (a b c : Int) : ([V.int .i64 a, V.int .i64 b, V.int .i64 c] : List V)[(nV s 3).toNat]? = some (.int .i64 (atL [a, b, c] (nV s 3).toNat)) := by
  obtain ⟨k, hk, h⟩ := at3 s
  rw [hk]
  match k, h with
  | 0, _ => rfl
  | 1, _ => rfl
  | 2, _ => rfl
@[simp] theorem tat_3' (s : Src) (a b c : Int) (h : (nV s 3).toNat < ([V.int .i64 a, V.int .i64 b, V.int .i64 c] : List V).length) : ([V.int .i64 a, V.int .i64 b, V.int .i64 c] : List V)[(nV s 3).toNat]'h = .int .i64 (atL [a, b, c] (nV s 3).toNat) := by
  have := tat_3 s a b c
  rw [List.getElem?_eq_getElem h] at this
  exact Option.some.inj this
def l06A : List Str := [[65], [66], [67], [79, 98, 106, 101, 99, 116], [69, 114, 114, 111, 114], [77, 97, 116, 104, 69, 114, 114, 111, 114]]
def l06B : List Str := [[65], [66]]
def l06C : List Str := [[], [90], [65]]
def l06K (s : Src) (k : Int) : (Str × Int) × Src :=
  if k = 3 ∨ k = 5 then ((pickV l06A s, 0), nS s 6) else if k = 6 then ((pickV l06B s, nV (nS s 2) 3), nS (nS s 2) 3) else (([], 0), s)
def l06T (s : Src) : Typ × Src :=
  let k := nV s 8
  let c := (l06K (nS s 8) k).1.1
  let t := (l06K (nS s 8) k).1.2
  let s2 := (l06K (nS s 8) k).2
  let s3 := nS s2 30
  if nV s2 30 = 0 then
    (if nV s3 3 = 0 then (⟨IntKind.i64.wrap (nV (nS s3 3) 10 - 1), c, t⟩, nS (nS s3 3) 10)
     else if nV s3 3 = 1 then (⟨k, pickV l06C (nS s3 3), t⟩, nS (nS s3 3) 3)
     else (⟨k, c, atL [-1, 59, 60] (nV (nS s3 3) 3).toNat⟩, nS (nS s3 3) 3))
  else (⟨k, c, t⟩, s3)
theorem l06K_ok {s : Src} (hs : okS s) (k : Int) : okS (l06K s k).2 ∧ (l06K s k).1.1.length ≤ 9 := by
  unfold l06K
  split
  · exact ⟨nS_ok hs _, pick_le _ (by decide) (by decide) (by decide)⟩
  · split
    · exact ⟨nS_ok (nS_ok hs _) _, Nat.le_trans (pick_le (n := 1) _ (by decide) (by decide) (by decide)) (by decide)⟩
    · exact ⟨hs, Nat.zero_le _⟩
theorem l06T_ok {s : Src} (hs : okS s) : okS (l06T s).2 ∧ (l06T s).1.c.length ≤ 9 := by
  obtain ⟨h1, h2⟩ := l06K_ok (nS_ok hs 8) (nV s 8)
  unfold l06T
  simp only
  split
  · split
    · exact ⟨nS_ok (nS_ok (nS_ok h1 _) _) _, h2⟩
    · split
      · exact ⟨nS_ok (nS_ok (nS_ok h1 _) _) _, Nat.le_trans (pick_le (n := 1) _ (by decide) (by decide) (by decide)) (by decide)⟩
      · exact ⟨nS_ok (nS_ok (nS_ok h1 _) _) _, h2⟩
  · exact ⟨nS_ok h1 _, h2⟩
end Go.Proofs
namespace Go.Proofs
open Go Go.Ev
def zT : Typ := ⟨0, [], 0⟩
def objT : Typ := ⟨3, sObject, 0⟩
def comI (l : List Cls) (a b : Str) : Str := ((chain l a).find? fun x => isKnown l x && out (chain l b) x).getD []
def comS (l : List Cls) (a b : Str) : Str := ((chS l a).find? fun x => subS l b x).getD []
def isObj (t : Typ) : Bool := decide (2 ≤ t.k ∧ t.k ≤ 5)
def leI (l : List Cls) (a b : Typ) : Bool :=
  if a = b ∨ b.k = 0 then true else if a.k = 2 then isObj b
  else if (a.k = 3 ∧ b.k = 3) ∨ (a.k = 5 ∧ b.k = 5) then isKnown l b.c && out (chain l a.c) b.c
  else decide (a.k = 4 ∨ a.k = 5) && decide (b = objT)
def lubI (l : List Cls) (a b : Typ) : Typ :=
  if a = b then a else if (!isObj a || !isObj b) = true then zT else if a.k = 2 then b else if b.k = 2 then a
  else if a.k = b.k then ⟨a.k, comI l a.c b.c, 0⟩ else objT
/-- is a below b? -/
def leT (l : List Cls) (a b : Typ) : Bool :=
  if a = b ∨ b.k = 0 then true else if a.k = 2 then decide (b.k = 3 ∨ b.k = 4 ∨ b.k = 5)
  else if (a.k = 3 ∧ b.k = 3) ∨ (a.k = 5 ∧ b.k = 5) then subS l a.c b.c
  else decide (a.k = 4 ∨ a.k = 5) && decide (b.k = 3) && decide (b.c = sObject)
/-- the least above both -/
def lubT (l : List Cls) (a b : Typ) : Typ :=
  if a = b then a else if a.k = 2 ∧ (b.k = 3 ∨ b.k = 4 ∨ b.k = 5) then b else if b.k = 2 ∧ (a.k = 3 ∨ a.k = 4 ∨ a.k = 5) then a
  else if a.k = b.k ∧ (a.k = 3 ∨ a.k = 5) then ⟨a.k, comS l a.c b.c, 0⟩
  else if (a.k = 3 ∨ a.k = 4 ∨ a.k = 5) ∧ (b.k = 3 ∨ b.k = 4 ∨ b.k = 5) then objT else zT
def leW (l : List Cls) (a b : Typ) : Bool := rightW l && knownT l a && (knownT l b && leT l a b)
def lubW (l : List Cls) (a b : Typ) : Typ := if (rightW l && knownT l a && knownT l b) = true then lubT l a b else zT
def comW (l : List Cls) (a b : Str) : Str := if (decide (a.length ≤ 20000) && decide (b.length ≤ 20000) && rightW l && (isKnown l a && isKnown l b)) = true then comS l a b else []

theorem right_of_known {l : List Cls} {t : Typ} (h : typeKnownW l t = true) : rightW l = true := by
  unfold typeKnownW at h; rw [Bool.and_eq_true] at h; exact h.1
theorem chain_known {l : List Cls} {a x : Str} : ∀ (k : Nat) (o : List Str) (n : Str), cMu l o ≤ k → (∀ y ∈ o, isKnown l y = true) → x ∈ chn l o n → isKnown l x = true
  | 0, o, n, hk, ho, hx => by
    rw [chn_stop] at hx
    · exact ho x hx
    · rintro ⟨h1, h2⟩; have := cMu_lt h1 h2; omega
  | k + 1, o, n, hk, ho, hx => by
    by_cases hc : isKnown l n = true ∧ out o n = false
    · rw [chn_go hc.1 hc.2] at hx
      refine chain_known (a := a) k (o ++ [n]) (superI l n) (by have := cMu_lt hc.1 hc.2; omega) (fun y hy => ?_) hx
      rcases List.mem_append.1 hy with hy | hy
      · exact ho y hy
      · rw [List.mem_singleton.1 hy]; exact hc.1
    · rw [chn_stop hc] at hx; exact ho x hx
theorem known_in {l : List Cls} {a x : Str} (h : x ∈ chain l a) : isKnown l x = true := chain_known (a := a) _ [] a (Nat.le_refl _) (fun y hy => by cases hy) h
theorem com_eq {l : List Cls} {a b : Str} (ha : isKnown l a = true) (hb : isKnown l b = true) : comI l a b = comS l a b := by
  unfold comI comS subS
  rw [chS_known ha, chS_known hb]
  congr 1
  have : ∀ (xs : List Str), (∀ x ∈ xs, isKnown l x = true) → xs.find? (fun x => isKnown l x && out (chain l b) x) = xs.find? (fun x => out (chain l b) x) := by
    intro xs
    induction xs with
    | nil => intro _; rfl
    | cons x xs ih => intro h; simp only [List.find?_cons]; rw [h x (by simp), Bool.true_and, ih (fun y hy => h y (by simp [hy]))]
  exact this _ (fun x hx => known_in hx)
theorem known3 {l : List Cls} {t : Typ} (h : knownT l t = true) (hk : t.k = 3 ∨ t.k = 5) : isKnown l t.c = true ∧ t.at' = 0 := by
  unfold knownT at h; rw [if_pos hk] at h; simpa using h
theorem knownP {l : List Cls} {t : Typ} (h : knownT l t = true) (h3 : ¬ (t.k = 3 ∨ t.k = 5)) (h6 : t.k ≠ 6) : t.c = [] ∧ t.at' = 0 ∧ 0 ≤ t.k ∧ t.k ≤ 7 := by
  unfold knownT at h; rw [if_neg h3, if_neg h6] at h; simp at h; exact ⟨h.2.1, h.2.2, h.1.1, h.1.2⟩
theorem typ_ext {a b : Typ} (h1 : a.k = b.k) (h2 : a.c = b.c) (h3 : a.at' = b.at') : a = b := by
  cases a; cases b; simp_all
theorem typ_same {l : List Cls} {a b : Typ} (ha : knownT l a = true) (hb : knownT l b = true) (e : a.k = b.k) (h3 : ¬ (a.k = 3 ∨ a.k = 5)) (h6 : a.k ≠ 6) : a = b := by
  have h1 := knownP ha h3 h6
  have h2 := knownP hb (by rw [← e]; exact h3) (by rw [← e]; exact h6)
  exact typ_ext e (by rw [h1.1, h2.1]) (by rw [h1.2.1, h2.2.1])
theorem le_eq {l : List Cls} {a b : Typ} (ha : knownT l a = true) (hb : knownT l b = true) : leI l a b = leT l a b := by
  unfold leI leT
  by_cases h1 : a = b ∨ b.k = 0
  · rw [if_pos h1, if_pos h1]
  · rw [if_neg h1, if_neg h1]
    by_cases h2 : a.k = 2
    · rw [if_pos h2, if_pos h2]
      have : b.k ≠ 2 := fun e => h1 (.inl (typ_same ha hb (by omega) (by omega) (by omega)))
      unfold isObj
      rw [Bool.eq_iff_iff]; simp; omega
    · rw [if_neg h2, if_neg h2]
      by_cases h3 : (a.k = 3 ∧ b.k = 3) ∨ (a.k = 5 ∧ b.k = 5)
      · rw [if_pos h3, if_pos h3]
        have ka := known3 ha (by omega)
        have kb := known3 hb (by omega)
        unfold subS
        rw [chS_known ka.1, kb.1, Bool.true_and]
      · rw [if_neg h3, if_neg h3, Bool.and_assoc]
        congr 1
        rw [Bool.eq_iff_iff]
        simp only [decide_eq_true_eq, Bool.and_eq_true]
        constructor
        · rintro rfl; exact ⟨rfl, rfl⟩
        · rintro ⟨e1, e2⟩; exact typ_ext e1 e2 (known3 hb (.inl e1)).2
theorem lub_eq {l : List Cls} {a b : Typ} (ha : knownT l a = true) (hb : knownT l b = true) : lubI l a b = lubT l a b := by
  unfold lubI lubT
  by_cases h1 : a = b
  · rw [if_pos h1, if_pos h1]
  · rw [if_neg h1, if_neg h1]
    have hs : a.k = b.k → (a.k = 3 ∨ a.k = 5) ∨ a.k = 6 := fun e => by
      by_cases h3 : a.k = 3 ∨ a.k = 5
      · exact .inl h3
      · exact .inr (Classical.byContradiction fun h6 => h1 (typ_same ha hb e h3 h6))
    simp only [isObj, Bool.or_eq_true, Bool.not_eq_true', decide_eq_false_iff_not]
    repeat' split
    all_goals first
      | rfl
      | omega
      | rw [com_eq (known3 ha (by omega)).1 (known3 hb (by omega)).1]
theorem leW_of (l : List Cls) (a b : Typ) : (rightW l && knownT l a && knownT l b && leI l a b) = leW l a b := by
  unfold leW
  by_cases h : knownT l a = true ∧ knownT l b = true
  · rw [le_eq h.1 h.2, h.1, h.2]; simp
  · cases h1 : knownT l a <;> cases h2 : knownT l b <;> simp_all
theorem find_drop {α : Type} {p : α → Bool} {xs : List α} {i : Nat} (h : i < xs.length) : (xs.drop i).find? p = if p xs[i] = true then some xs[i] else (xs.drop (i + 1)).find? p := by
  rw [List.drop_eq_getElem_cons h, List.find?_cons]; cases p xs[i] <;> rfl
theorem comS_nil {l : List Cls} (h : rightW l = true) (b : Str) : comS l [] b = [] := by unfold comS; rw [chS_nil h]; rfl
theorem comS_go {l : List Cls} (h : rightW l = true) {a b : Str} (ha : a ≠ []) : comS l a b = if subS l b a = true then a else comS l (superOf l a) b := by
  unfold comS; rw [chS_go h ha, List.find?_cons]; cases subS l b a <;> rfl
end Go.Proofs
namespace Go.Proofs
open Go Go.Ev
section
variable {l : List Cls}
theorem super_ne {n : Str} (h : P12 l) (hk : isKnown l n = true) (hn : n ≠ sObject) : superI l n ≠ [] := by
  intro e
  simp only [isKnown, Bool.or_eq_true, decide_eq_true_eq] at hk
  by_cases hb : 0 ≤ builtIx n
  · rw [(super_bIn (fun k hk => (h k hk).1) hb).2, if_neg hn] at e
    split at e <;> cases e
  · obtain ⟨i, hi, _, _, e3⟩ := found_name (l := l) (n := n) (by omega)
    rw [e3] at e
    rcases (super_cls h hi).2 with ⟨_, e2 | e2⟩ | ⟨j, hj, _, e2⟩
    · rw [e] at e2; cases e2
    · rw [e] at e2; cases e2
    · have := known_own (l := l) hj
      rw [e2, e, nil_unknown h] at this; cases this
theorem chain_ind (hw : rightW l = true) {P : Str → Prop} (h0 : P sObject) (h1 : ∀ n, isKnown l n = true → n ≠ sObject → isKnown l (superI l n) = true → P (superI l n) → P n) : ∀ n, isKnown l n = true → P n := by
  have key : ∀ (k : Nat) (n : Str), rk l n ≤ k → isKnown l n = true → P n := by
    intro k
    induction k with
    | zero =>
      intro n hk hn
      by_cases ho : n = sObject
      · rw [ho]; exact h0
      · have := rk_lt (right_P12 hw) (right_cyc hw) hn (super_ne (right_P12 hw) hn ho); omega
    | succ k ih =>
      intro n hk hn
      by_cases ho : n = sObject
      · rw [ho]; exact h0
      · have hs := super_ne (right_P12 hw) hn ho
        have := rk_lt (right_P12 hw) (right_cyc hw) hn hs
        have hks := (known_super (right_P12 hw) hn).resolve_left hs
        exact h1 n hn ho hks (ih _ (by omega) hks)
  exact fun n hn => key _ n (Nat.le_refl _) hn
theorem chain_obj (hw : rightW l = true) : chain l sObject = [sObject] := by
  unfold chain; rw [chn_obj (right_P12 hw) rfl]; rfl
theorem self_in {n : Str} (hw : rightW l = true) (hn : isKnown l n = true) : n ∈ chain l n := by rw [chain_rec hw hn]; simp
theorem obj_in (hw : rightW l = true) : ∀ n, isKnown l n = true → sObject ∈ chain l n :=
  chain_ind hw (by rw [chain_obj hw]; simp) fun n hn _ _ ih => by rw [chain_rec hw hn]; simp [ih]
theorem known_obj : isKnown l sObject = true := known_bIn (by rw [bIx_obj.1]; omega)
theorem in_trans (hw : rightW l = true) {x y : Str} : ∀ n, isKnown l n = true → x ∈ chain l n → y ∈ chain l x → y ∈ chain l n := by
  refine chain_ind hw ?_ ?_
  · intro hx hy
    rw [chain_obj hw] at hx
    rw [List.mem_singleton.1 hx] at hy; exact hy
  · intro n hn _ _ ih hx hy
    rw [chain_rec hw hn] at hx ⊢
    rcases List.mem_cons.1 hx with rfl | hx
    · rw [← chain_rec hw hn]; exact hy
    · exact List.mem_cons_of_mem _ (ih hx hy)
theorem in_rk (hw : rightW l = true) {x : Str} : ∀ n, isKnown l n = true → x ∈ chain l n → x = n ∨ rk l x < rk l n := by
  refine chain_ind hw ?_ ?_
  · intro hx; rw [chain_obj hw] at hx; exact .inl (List.mem_singleton.1 hx)
  · intro n hn ho hs ih hx
    rw [chain_rec hw hn] at hx
    rcases List.mem_cons.1 hx with rfl | hx
    · exact .inl rfl
    · have := rk_lt (right_P12 hw) (right_cyc hw) hn (super_ne (right_P12 hw) hn ho)
      rcases ih hx with rfl | h
      · exact .inr this
      · exact .inr (by omega)
theorem in_antisymm (hw : rightW l = true) {x y : Str} (hx : isKnown l x = true) (hy : isKnown l y = true) (h1 : x ∈ chain l y) (h2 : y ∈ chain l x) : x = y := by
  rcases in_rk hw y hy h1 with e | e
  · exact e
  · rcases in_rk hw x hx h2 with e2 | e2
    · exact e2.symm
    · omega
theorem sub_iff {a b : Str} (ha : isKnown l a = true) : subS l a b = true ↔ b ∈ chain l a := by
  unfold subS; rw [chS_known ha, out_iff]
/-- the first common one -/
theorem com_spec (hw : rightW l = true) {b : Str} (hb : isKnown l b = true) : ∀ a, isKnown l a = true →
    comS l a b ∈ chain l a ∧ comS l a b ∈ chain l b ∧ ∀ c, c ∈ chain l a → c ∈ chain l b → c ∈ chain l (comS l a b) := by
  have hgo : ∀ a, isKnown l a = true → comS l a b = if a ∈ chain l b then a else comS l (superI l a) b := by
    intro a ha
    have hne : a ≠ [] := fun e => by rw [e, nil_unknown (right_P12 hw)] at ha; cases ha
    rw [comS_go hw hne, superI_eq (right_P12 hw)]
    by_cases h : a ∈ chain l b
    · rw [if_pos h, if_pos ((sub_iff hb).2 h)]
    · rw [if_neg h, if_neg (fun e => h ((sub_iff hb).1 e))]
  refine chain_ind hw ?_ ?_
  · rw [hgo _ known_obj, if_pos (obj_in hw b hb)]
    exact ⟨self_in hw known_obj, obj_in hw b hb, fun c hc _ => hc⟩
  · intro n hn ho hs ih
    rw [hgo n hn]
    by_cases h : n ∈ chain l b
    · rw [if_pos h]; exact ⟨self_in hw hn, h, fun c hc _ => hc⟩
    · rw [if_neg h]
      refine ⟨?_, ih.2.1, fun c hc hcb => ?_⟩
      · rw [chain_rec hw hn]; exact List.mem_cons_of_mem _ ih.1
      · rw [chain_rec hw hn] at hc
        rcases List.mem_cons.1 hc with rfl | hc
        · exact absurd hcb h
        · exact ih.2.2 c hc hcb
theorem com_comm (hw : rightW l = true) {a b : Str} (ha : isKnown l a = true) (hb : isKnown l b = true) : comS l a b = comS l b a := by
  obtain ⟨a1, a2, a3⟩ := com_spec hw hb a ha
  obtain ⟨b1, b2, b3⟩ := com_spec hw ha b hb
  exact in_antisymm hw (known_in a1) (known_in b1) (b3 _ a2 a1) (a3 _ b2 b1)
theorem known_of3 {t : Typ} (hk : t.k = 3 ∨ t.k = 5) (h1 : isKnown l t.c = true) (h2 : t.at' = 0) : knownT l t = true := by
  unfold knownT; rw [if_pos hk]; simp [h1, h2]
theorem known_objT : knownT l objT = true := known_of3 (.inl rfl) known_obj rfl
theorem le_refl' (a : Typ) : leT l a a = true := by unfold leT; rw [if_pos (.inl rfl)]
/-- what it says that a is below b -/
theorem le_iff {a b : Typ} (ha : knownT l a = true) (_hb : knownT l b = true) : leT l a b = true ↔ a = b ∨ b.k = 0 ∨ (a.k = 2 ∧ (b.k = 3 ∨ b.k = 4 ∨ b.k = 5)) ∨ (((a.k = 3 ∧ b.k = 3) ∨ (a.k = 5 ∧ b.k = 5)) ∧ b.c ∈ chain l a.c) ∨
    ((a.k = 4 ∨ a.k = 5) ∧ b.k = 3 ∧ b.c = sObject) := by
  unfold leT
  by_cases h1 : a = b ∨ b.k = 0
  · rw [if_pos h1]; rcases h1 with h1 | h1 <;> simp [h1]
  · rw [if_neg h1]
    by_cases h2 : a.k = 2
    · rw [if_pos h2, decide_eq_true_eq]
      constructor
      · intro h; exact .inr (.inr (.inl ⟨h2, h⟩))
      · rintro (h | h | ⟨_, h⟩ | ⟨h, _⟩ | ⟨h, _⟩)
        · exact absurd (.inl h) h1
        · exact absurd (.inr h) h1
        · exact h
        · omega
        · omega
    · rw [if_neg h2]
      by_cases h3 : (a.k = 3 ∧ b.k = 3) ∨ (a.k = 5 ∧ b.k = 5)
      · rw [if_pos h3, sub_iff (known3 ha (by omega)).1]
        constructor
        · intro h; exact .inr (.inr (.inr (.inl ⟨h3, h⟩)))
        · rintro (h | h | ⟨h, _⟩ | ⟨_, h⟩ | ⟨h, h'⟩)
          · exact absurd (.inl h) h1
          · exact absurd (.inr h) h1
          · omega
          · exact h
          · omega
      · rw [if_neg h3]
        simp only [Bool.and_eq_true, decide_eq_true_eq, and_assoc]
        constructor
        · intro h; exact .inr (.inr (.inr (.inr h)))
        · rintro (h | h | ⟨h, _⟩ | ⟨h, _⟩ | h)
          · exact absurd (.inl h) h1
          · exact absurd (.inr h) h1
          · omega
          · exact absurd h h3
          · exact h
theorem lub_known (hw : rightW l = true) {a b : Typ} (ha : knownT l a = true) (hb : knownT l b = true) : knownT l (lubT l a b) = true := by
  unfold lubT
  repeat' split
  · exact ha
  · exact hb
  · exact ha
  · rename_i h
    exact known_of3 (t := ⟨a.k, comS l a.c b.c, 0⟩) h.2 (known_in (com_spec hw (known3 hb (by omega)).1 _ (known3 ha h.2).1).1) rfl
  · exact known_objT
  · rfl
theorem lub_up (hw : rightW l = true) {a b : Typ} (ha : knownT l a = true) (hb : knownT l b = true) : leT l a (lubT l a b) = true ∧ leT l b (lubT l a b) = true := by
  rw [le_iff ha (lub_known hw ha hb), le_iff hb (lub_known hw ha hb)]
  unfold lubT
  repeat' split
  · rename_i h; exact ⟨.inl rfl, .inl h.symm⟩
  · rename_i h; exact ⟨.inr (.inr (.inl h)), .inl rfl⟩
  · rename_i h; exact ⟨.inl rfl, .inr (.inr (.inl h))⟩
  · rename_i h
    have := com_spec hw (known3 hb (by omega)).1 _ (known3 ha h.2).1
    exact ⟨.inr (.inr (.inr (.inl ⟨by simp only; omega, this.1⟩))), .inr (.inr (.inr (.inl ⟨by simp only; omega, this.2.1⟩)))⟩
  · rename_i h1 h2 h3 h4 h
    have key : ∀ {t : Typ}, knownT l t = true → (t.k = 3 ∨ t.k = 4 ∨ t.k = 5) → t = objT ∨ objT.k = 0 ∨ (t.k = 2 ∧ (objT.k = 3 ∨ objT.k = 4 ∨ objT.k = 5)) ∨ (((t.k = 3 ∧ objT.k = 3) ∨ (t.k = 5 ∧ objT.k = 5)) ∧ objT.c ∈ chain l t.c) ∨ ((t.k = 4 ∨ t.k = 5) ∧ objT.k = 3 ∧ objT.c = sObject) := by
      intro t ht hk
      by_cases h : t.k = 3
      · exact .inr (.inr (.inr (.inl ⟨.inl ⟨h, rfl⟩, obj_in hw _ (known3 ht (.inl h)).1⟩)))
      · exact .inr (.inr (.inr (.inr ⟨by omega, rfl, rfl⟩)))
    exact ⟨key ha h.1, key hb h.2⟩
  · exact ⟨.inr (.inl rfl), .inr (.inl rfl)⟩
set_option maxHeartbeats 4000000 in
theorem lub_least (hw : rightW l = true) {a b c : Typ} (ha : knownT l a = true) (hb : knownT l b = true) (hc : knownT l c = true) (h1 : leT l a c = true) (h2 : leT l b c = true) : leT l (lubT l a b) c = true := by
  have hk := lub_known hw ha hb
  have h1' := h1
  have h2' := h2
  rw [le_iff ha hc] at h1
  rw [le_iff hb hc] at h2
  by_cases hc0 : c.k = 0
  · rw [le_iff hk hc]; exact .inr (.inl hc0)
  revert hk
  unfold lubT
  split
  · intro _; exact h1'
  · rename_i hab
    split
    · intro _; exact h2'
    · rename_i hn1
      split
      · intro _; exact h1'
      · rename_i hn2
        split
        · rename_i h
          intro hk
          rw [le_iff hk hc]
          have ka := known3 ha h.2
          have kb := known3 hb (by omega)
          have hsp := com_spec hw kb.1 _ ka.1
          rcases h1 with e | h1 | ⟨h1, _⟩ | ⟨h1, h1m⟩ | ⟨h1, h1c⟩
          · -- c = a: then b is below a
            subst e
            rcases h2 with e | h2 | ⟨h2, _⟩ | ⟨h2, h2m⟩ | ⟨h2, h2c⟩
            · exact absurd e.symm hab
            · omega
            · omega
            · exact .inr (.inr (.inr (.inl ⟨by simp only; omega, hsp.2.2 _ (self_in hw ka.1) h2m⟩)))
            · exact absurd h2c.1 (by omega)
          · omega
          · omega
          · rcases h2 with e | h2 | ⟨h2, _⟩ | ⟨h2, h2m⟩ | ⟨h2, h2c⟩
            · subst e
              exact .inr (.inr (.inr (.inl ⟨by simp only; omega, hsp.2.2 _ h1m (self_in hw kb.1)⟩)))
            · omega
            · omega
            · exact .inr (.inr (.inr (.inl ⟨by simp only; omega, hsp.2.2 _ h1m h2m⟩)))
            · omega
          · have : a.k = 5 := by omega
            exact .inr (.inr (.inr (.inr ⟨by simp only; omega, h1c⟩)))
        · rename_i hn3
          split
          · rename_i h
            intro hk
            rw [le_iff hk hc]
            have hO : c.k = 3 → c.c = sObject → objT = c := fun e1 e2 => typ_ext (by rw [e1]; rfl) (by rw [e2]; rfl) (by rw [(known3 hc (.inl e1)).2]; rfl)
            have hsame := fun e (h6 : ¬ (a.k = 3 ∨ a.k = 5)) => hab (typ_same ha hb e h6 (by omega))
            rcases h1 with e | h1 | ⟨h1, _⟩ | ⟨h1, h1m⟩ | ⟨h1, h1c⟩
            · subst e
              rcases h2 with e | h2 | ⟨h2, _⟩ | ⟨h2, h2m⟩ | ⟨h2, h2c⟩
              · exact absurd e.symm hab
              · omega
              · omega
              · omega
              · exact .inl (hO h2c.1 h2c.2)
            · omega
            · omega
            · rcases h2 with e | h2 | ⟨h2, _⟩ | ⟨h2, h2m⟩ | ⟨h2, h2c⟩
              · subst e; omega
              · omega
              · omega
              · omega
              · exact .inl (hO h2c.1 h2c.2)
            · exact .inl (hO h1c.1 h1c.2)
          · rename_i hn4
            intro hk
            rw [le_iff hk hc]
            rcases h1 with e | h1 | ⟨h1, h1b⟩ | ⟨h1, h1m⟩ | ⟨h1, h1c⟩
            · subst e
              rcases h2 with e | h2 | ⟨h2, _⟩ | ⟨h2, h2m⟩ | ⟨h2, h2c⟩
              · exact absurd e.symm hab
              · omega
              · omega
              · omega
              · omega
            · omega
            · rcases h2 with e | h2 | ⟨h2, h2b⟩ | ⟨h2, h2m⟩ | ⟨h2, h2c⟩
              · subst e; omega
              · omega
              · exact absurd (typ_same ha hb (by omega) (by omega) (by omega)) hab
              · omega
              · omega
            · rcases h2 with e | h2 | ⟨h2, h2b⟩ | ⟨h2, h2m⟩ | ⟨h2, h2c⟩
              · subst e; omega
              · omega
              · omega
              · omega
              · omega
            · rcases h2 with e | h2 | ⟨h2, h2b⟩ | ⟨h2, h2m⟩ | ⟨h2, h2c⟩
              · subst e; omega
              · omega
              · omega
              · omega
              · omega
set_option maxHeartbeats 4000000 in
theorem lub_comm (hw : rightW l = true) {a b : Typ} (ha : knownT l a = true) (hb : knownT l b = true) : lubT l a b = lubT l b a := by
  unfold lubT
  by_cases h1 : a = b
  · rw [if_pos h1, if_pos h1.symm, h1]
  · rw [if_neg h1, if_neg (show ¬ b = a from fun e => h1 e.symm)]
    repeat' split
    all_goals first
      | rfl
      | (exfalso; omega)
      | (exact absurd (typ_same ha hb (by omega) (by omega) (by omega)) h1)
      | (rename_i h _; rw [com_comm hw (known3 ha (by omega)).1 (known3 hb (by omega)).1]; congr 1; omega)
      | (rename_i h; rw [com_comm hw (known3 ha (by omega)).1 (known3 hb (by omega)).1]; congr 1; omega)
end
end Go.Proofs
namespace Go.Proofs
open Go Go.Ev
structure Fnd where
  c : Str
  p : Int
  e : Int
  deriving DecidableEq, Inhabited
def eFd (x : Fnd) : V := .agg [.str x.c, .int .i64 x.p, .int .i64 x.e]
attribute [simp] eFd
def zFd : Fnd := ⟨[], 0, 0⟩
def noFd : Fnd := ⟨[], 0, 8⟩
def szFd : Fnd := ⟨[], 0, 2⟩
def descV : Str := [40, 41, 86]
/-- a method of which the name and the desc alone stand there -/
def bareM (n d : Str) : Mth := ⟨n, d, false, false, false, 0, 0, [], []⟩
theorem wk_bareM (n d : Str) : Wk (.agg [.str n, .str d, .bool false, .bool false, .bool false, .int .i64 0, .int .i64 0, .raw (.slice none 0 0), .raw (.slice none 0 0)]) (eM (bareM n d)) :=
  Wk.agg (.cons (Wk.refl _) (.cons (Wk.refl _) (.cons (Wk.refl _) (.cons (Wk.refl _) (.cons (Wk.refl _) (.cons (Wk.refl _) (.cons (Wk.refl _) (.cons (Wk.nilSlice _ _) (.cons (Wk.nilSlice _ _) .nil)))))))))
/-- the method in the first of these classes that has it -/
def fmL (l : List Cls) (n d : Str) : List Str → Fnd × Mth
  | [] => (noFd, zM)
  | x :: xs => if 0 ≤ mthFrom n d (clsOf l x).methods 0 then (⟨x, mthFrom n d (clsOf l x).methods 0, 0⟩, atL (clsOf l x).methods (mthFrom n d (clsOf l x).methods 0).toNat)
    else if n = init then (if bIn x = true ∧ d = descV then (⟨x, -1, 0⟩, bareM init d) else (noFd, zM)) else fmL l n d xs
def fmW (l : List Cls) (c n d : Str) : Fnd :=
  if 400 < l.length ∨ 20000 < c.length ∨ 20000 < n.length ∨ 20000 < d.length then szFd else if rightW l = true then (fmL l n d (chain l c)).1 else zFd
/-- .. as the reference goes: by the place of the class -/
def fmU (l : List Cls) (n d : Str) (k : Int) : Fnd := if k < 0 then noFd else (fmL l n d (chain l (nmAt l k))).1
theorem mthFrom_nil {n d : Str} : mthFrom n d [] 0 = -1 := rfl
theorem cls_bIn {l : List Cls} (h : P12 l) {x : Str} (hb : 0 ≤ builtIx x) : clsOf l x = zC := clsOf_none (by have := (super_bIn (fun k hk => (h k hk).1) hb).1; omega)
theorem bIn_super {l : List Cls} (h : P12 l) {x : Str} (hb : 0 ≤ builtIx x) : superI l x = [] ∨ 0 ≤ builtIx (superI l x) := by
  rw [(super_bIn (fun k hk => (h k hk).1) hb).2]
  split
  · exact .inl rfl
  · split
    · exact .inr (by rw [bIx_obj.1]; omega)
    · exact .inr (by rw [bIx_obj.2.1]; omega)
theorem fm_bIn {l : List Cls} (hw : rightW l = true) {n d : Str} (hn : n ≠ init) : ∀ x, isKnown l x = true → 0 ≤ builtIx x → fmL l n d (chain l x) = (noFd, zM) := by
  have one : ∀ x (xs : List Str), 0 ≤ builtIx x → fmL l n d (x :: xs) = fmL l n d xs := fun x xs hb => by
    simp only [fmL]
    rw [cls_bIn (right_P12 hw) hb, if_neg (by show ¬ 0 ≤ mthFrom n d [] 0; rw [mthFrom_nil]; omega), if_neg hn]
  refine chain_ind hw ?_ ?_
  · intro hb; rw [chain_obj hw, one _ _ hb]; rfl
  · intro x hx hxo _ ih hb
    rw [chain_rec hw hx, one _ _ hb]
    rcases bIn_super (right_P12 hw) hb with e | e
    · exact absurd e (super_ne (right_P12 hw) hx hxo)
    · exact ih e
theorem nm_known {l : List Cls} {k : Int} (h0 : 0 ≤ k) (h1 : k < l.length) : isKnown l (nmAt l k) = true := known_at h0 h1
theorem fm_start {l : List Cls} (hw : rightW l = true) {c n d : Str} (h : ¬ (0 ≤ builtIx c ∧ n = init ∧ d = descV)) : fmU l n d (findFrom c l 0) = (fmL l n d (chain l c)).1 := by
  unfold fmU
  by_cases hf : findFrom c l 0 < 0
  · rw [if_pos hf]
    by_cases hb : 0 ≤ builtIx c
    · have hk := known_bIn (l := l) hb
      by_cases hn : n = init
      · rw [chain_rec hw hk]
        simp only [fmL]
        rw [cls_bIn (right_P12 hw) hb, if_neg (by show ¬ 0 ≤ mthFrom n d [] 0; rw [mthFrom_nil]; omega), if_pos hn, if_neg (fun e => h ⟨hb, hn, e.2⟩)]
      · rw [fm_bIn hw hn c hk hb]
    · rw [chain_no (by simp [isKnown]; omega)]; rfl
  · rw [if_neg hf]
    obtain ⟨i, hi, e1, e2, _⟩ := found_name (l := l) (n := c) (by omega)
    rw [e1, nmAt_nat hi, e2]
theorem fm_built {l : List Cls} (hw : rightW l = true) {c n d : Str} (hb : 0 ≤ builtIx c) (hn : n = init) (hd : d = descV) : (fmL l n d (chain l c)).1 = ⟨c, -1, 0⟩ := by
  rw [chain_rec hw (known_bIn hb)]
  simp only [fmL]
  rw [cls_bIn (right_P12 hw) hb, if_neg (by show ¬ 0 ≤ mthFrom n d [] 0; rw [mthFrom_nil]; omega), if_pos hn, if_pos ⟨by simp [bIn, hb], hd⟩]
theorem fmU_neg {l : List Cls} {n d : Str} {k : Int} (h : k < 0) : fmU l n d k = noFd := if_pos h
theorem fmU_go {l : List Cls} (hw : rightW l = true) {n d : Str} {k : Nat} (hk : k < l.length) :
    fmU l n d k = if 0 ≤ mthFrom n d l[k].methods 0 then ⟨l[k].name, mthFrom n d l[k].methods 0, 0⟩ else if n = init then noFd else fmU l n d (nxt l k) := by
  have hp := right_P12 hw
  have hkn := nm_known (l := l) (k := (k : Int)) (by omega) (by omega)
  unfold fmU
  rw [if_neg (by omega), chain_rec hw hkn]
  simp only [fmL]
  rw [clsOf_at hp hk, nmAt_nat hk]
  by_cases h1 : 0 ≤ mthFrom n d l[k].methods 0
  · rw [if_pos h1, if_pos h1]
  · rw [if_neg h1, if_neg h1]
    by_cases h2 : n = init
    · rw [if_pos h2, if_pos h2, if_neg]
      rintro ⟨e, _⟩
      have := name_not_bIn hk (hp k hk).1
      simp [bIn] at e; omega
    · rw [if_neg h2, if_neg h2]
      by_cases h3 : nxt l k < 0
      · rw [if_pos h3]
        obtain ⟨e1, e2⟩ := super_cls hp hk
        rw [e1]
        rcases e2 with ⟨_, e | e⟩ | ⟨j, hj, e4, _⟩
        · rw [e, fm_bIn hw h2 _ known_obj (by rw [bIx_obj.1]; omega)]
        · rw [e, fm_bIn hw h2 _ (known_bIn (by rw [bIx_obj.2.1]; omega)) (by rw [bIx_obj.2.1]; omega)]
        · omega
      · rw [if_neg h3]
        have := step_up hp (k := (k : Int)) (by omega) (by omega) (by omega)
        rw [nmAt_nat hk] at this
        rw [this]
/-- how far the way up is, by the place of the class -/
def rkU (l : List Cls) (k : Int) : Nat := if k < 0 then 0 else rk l (nmAt l k) + 1
theorem rkU_lt {l : List Cls} (hw : rightW l = true) {k : Nat} (hk : k < l.length) : rkU l (nxt l k) < rkU l k := by
  unfold rkU
  rw [if_neg (show ¬ (k : Int) < 0 from by omega)]
  by_cases h3 : nxt l k < 0
  · rw [if_pos h3]; omega
  · rw [if_neg h3]
    have hkn := nm_known (l := l) (k := (k : Int)) (by omega) (by omega)
    have := step_up (right_P12 hw) (k := (k : Int)) (by omega) (by omega) (by omega)
    have h2 := rk_lt (right_P12 hw) (right_cyc hw) hkn (by
      rw [this]; intro e
      have h4 := nm_known (l := l) (k := nxt l k) (by omega) nxt_ge.2
      rw [e, nil_unknown (right_P12 hw)] at h4; cases h4)
    rw [this] at h2; omega
theorem comW_of {l : List Cls} (hw : rightW l = true) {a b : Str} (ha : a.length ≤ 20000) (hb : b.length ≤ 20000) : comI l a b = comW l a b := by
  unfold comW
  rw [decide_eq_true ha, decide_eq_true hb, hw]
  by_cases hk : isKnown l a = true
  · by_cases hk2 : isKnown l b = true
    · rw [hk, hk2, if_pos (by rfl), com_eq hk hk2]
    · rw [if_neg (by simp [hk2])]
      unfold comI
      rw [chain_no (n := b) (by simpa using hk2)]
      have : (chain l a).find? (fun x => isKnown l x && out [] x) = none := by simp [out]
      rw [this]; rfl
  · rw [if_neg (by simp [hk])]; unfold comI; rw [chain_no (n := a) (by simpa using hk)]; rfl
end Go.Proofs
namespace Go.Proofs
open Go Go.Ev
theorem sub_ok {z : Int} {n : Nat} (h : 0 ≤ sub z n) : (n : Int) ≤ z ∧ sub z n = z - n := by
  unfold sub at h ⊢; split at h <;> omega
structure Frm where
  stack : List Typ
  locals : List Typ
  deriving DecidableEq, Inhabited
def eFr (x : Frm) : V := .agg [.lst false 3 (x.stack.map eT), .lst false 3 (x.locals.map eT)]
def oFr (x : Frm) : V := .agg [.lst true 3 (x.stack.map eT), .lst true 3 (x.locals.map eT)]
attribute [simp] eFr oFr
def sizeFr (x : Frm) : Nat := (x.stack.length + (x.stack.map sizeT).sum) + (x.locals.length + (x.locals.map sizeT).sum)
def bigFr (x : Frm) : Prop := x.stack.length < 4611686018427387904 ∧ (∀ y ∈ x.stack, bigT y) ∧ x.locals.length < 4611686018427387904 ∧ (∀ y ∈ x.locals, bigT y)
@[simp] theorem pureL_eFr (l : List Frm) : pureL (l.map eFr) = true := pureL_map _ (fun _ => rfl) l
@[simp] theorem fzL_eFr (l : List Frm) : fzL (l.map eFr) = l.map eFr := fzL_mapf _ (fun _ => rfl) l
@[simp] theorem jkL_eFr (p : Nat → Bool) (l : List Frm) : jkL p (l.map eFr) = l.map eFr := jkL_mapf p _ (fun _ => rfl) l
theorem fz_oFr (x : Frm) : (oFr x).fz = eFr x := by simp [oFr, eFr, V.fz, fzL]
/-- a frame is right -/
def frmR (l : List Cls) (f : Frm) : Bool := decide (f.stack.length ≤ 16) && (decide (f.locals.length ≤ 16) && (f.stack.all (knownT l) && f.locals.all (knownT l)))
def frmRightW (l : List Cls) (f : Frm) : Bool := rightW l && frmR l f
def leLs (r : Typ → Typ → Bool) : List Typ → List Typ → Bool
  | [], [] => true
  | a :: as', b :: bs => r a b && leLs r as' bs
  | _, _ => false
def frmLeW (l : List Cls) (a b : Frm) : Bool := frmRightW l a && (frmR l b && (leLs (leT l) a.stack b.stack && leLs (leT l) a.locals b.locals))
theorem leLs_ne {r : Typ → Typ → Bool} : ∀ {a b : List Typ}, a.length ≠ b.length → leLs r a b = false
  | [], [], h => absurd rfl h
  | [], _ :: _, _ => rfl
  | _ :: _, [], _ => rfl
  | _ :: as', _ :: bs, h => by simp only [leLs]; rw [leLs_ne (by simpa using h), Bool.and_false]
theorem leLs_drop {r : Typ → Typ → Bool} {a b : List Typ} {i : Nat} (h : i < a.length) (e : a.length = b.length) : leLs r (a.drop i) (b.drop i) = (r a[i] b[i] && leLs r (a.drop (i + 1)) (b.drop (i + 1))) := by
  rw [List.drop_eq_getElem_cons h, List.drop_eq_getElem_cons (show i < b.length by omega)]; rfl
theorem leLs_end {r : Typ → Typ → Bool} {a b : List Typ} {i : Nat} (h : a.length ≤ i) (e : a.length = b.length) : leLs r (a.drop i) (b.drop i) = true := by
  rw [List.drop_eq_nil_of_le h, List.drop_eq_nil_of_le (show b.length ≤ i by omega)]; rfl
theorem leLs_eq {l : List Cls} : ∀ {a b : List Typ}, a.all (knownT l) = true → b.all (knownT l) = true → leLs (leI l) a b = leLs (leT l) a b
  | [], [], _, _ => rfl
  | [], _ :: _, _, _ => rfl
  | _ :: _, [], _, _ => rfl
  | x :: as', y :: bs, ha, hb => by
    simp only [List.all_cons, Bool.and_eq_true] at ha hb
    simp only [leLs]; rw [le_eq ha.1 hb.1, leLs_eq ha.2 hb.2]
theorem frmLeW_of (l : List Cls) (a b : Frm) : (rightW l && frmR l a && frmR l b && leLs (leI l) a.stack b.stack && leLs (leI l) a.locals b.locals) = frmLeW l a b := by
  unfold frmLeW frmRightW
  by_cases h : frmR l a = true ∧ frmR l b = true
  · have h1 := h.1
    have h2 := h.2
    simp only [frmR, Bool.and_eq_true] at h1 h2
    rw [leLs_eq h1.2.2.1 h2.2.2.1, leLs_eq h1.2.2.2 h2.2.2.2]
    simp only [Bool.and_assoc]
  · cases h1 : frmR l a <;> cases h2 : frmR l b <;> simp_all
theorem any_not {α : Type} (p : α → Bool) (l : List α) : (l.any fun x => !p x) = !l.all p := any_not_all p l
end Go.Proofs
namespace Go.Proofs
open Go Go.Ev
/-- the digits of a number, ahead of a text -/
def mDig : Nat → Str → Str
  | 0, a => a
  | k + 1, a => mDig ((k + 1) / 10) (UInt8.ofNat (48 + (k + 1) % 10) :: a)
  termination_by k => k
  decreasing_by omega
def mText (k : Nat) : Str := if k = 0 then [109, 48] else 109 :: mDig k []
theorem mDig_go {k : Nat} {a : Str} (h : 0 < k) : mDig k a = mDig (k / 10) (UInt8.ofNat (48 + k % 10) :: a) := by
  obtain ⟨j, rfl⟩ : ∃ j, k = j + 1 := ⟨k - 1, by omega⟩
  rw [mDig]
theorem mDig_zero (a : Str) : mDig 0 a = a := by rw [mDig]
theorem mDig_len : ∀ (n k : Nat) (a : Str), k ≤ n → (mDig k a).length ≤ a.length + k
  | 0, k, a, h => by obtain rfl : k = 0 := by omega
                     rw [mDig_zero]; omega
  | n + 1, k, a, h => by
    rcases Nat.eq_zero_or_pos k with rfl | h0
    · rw [mDig_zero]; omega
    · rw [mDig_go h0]
      have := mDig_len n (k / 10) (UInt8.ofNat (48 + k % 10) :: a) (by omega)
      rw [List.length_cons] at this; omega
/-- a list of which some are marked -/
theorem mid_get (Y : List V) (x : V) (Z : List V) : atV (Y ++ x :: Z) Y.length = x := by simp [atV]
theorem mid_getD (Y : List V) (x : V) (Z : List V) : (Y ++ x :: Z)[Y.length]?.getD .junk = x := by simp
theorem mid_set (Y : List V) (x y : V) (Z : List V) : (Y ++ x :: Z).set Y.length y = Y ++ y :: Z := by simp
theorem mid_lt (Y : List V) (x : V) (Z : List V) : (Y.length < (Y ++ x :: Z).length) = True := by simp
theorem mid_next (Y : List V) (x : V) (Z : List V) : Y ++ x :: Z = (Y ++ [x]) ++ Z := by simp
/-- n marked things, each of which takes c numbers -/
def mks {α : Type} (f : Nat → α) (c : Nat) (k : Nat) : Nat → List α
  | 0 => []
  | n + 1 => f k :: mks f c (k + c) n
theorem mks_len {α : Type} {f : Nat → α} {c : Nat} : ∀ (n k : Nat), (mks f c k n).length = n
  | 0, _ => rfl
  | n + 1, k => by simp [mks, mks_len n]
theorem mks_succ {α : Type} {f : Nat → α} {c : Nat} : ∀ (n k : Nat), mks f c k (n + 1) = mks f c k n ++ [f (k + c * n)]
  | 0, k => by simp [mks]
  | n + 1, k => by
    rw [mks, mks_succ n (k + c), mks, List.cons_append]
    rw [show k + c + c * n = k + c * (n + 1) from by rw [Nat.mul_add]; omega]
theorem midG {Y : List V} {i : Nat} (h : Y.length = i) (x : V) (Z : List V) : (Y ++ x :: Z)[i]? = some x := by subst h; simp
theorem midS {Y : List V} {i : Nat} (h : Y.length = i) (x y : V) (Z : List V) : (Y ++ x :: Z).set i y = Y ++ y :: Z := by subst h; simp
def mkT (k : Nat) : Typ := ⟨k, mText (k + 1), ((k + 2 : Nat) : Int)⟩
def mkF (k : Nat) : Fld := ⟨mText k, mText (k + 1), decide ((k + 2) % 3 = 0)⟩
def mkI (k : Nat) : Ins := ⟨k, ((k + 1 : Nat) : Int), mText (k + 2), mText (k + 3), mText (k + 4)⟩
def mkH (k : Nat) : Hdl := ⟨k, ((k + 1 : Nat) : Int), ((k + 2 : Nat) : Int), mText (k + 3)⟩
end Go.Proofs
namespace Go.Proofs
open Go Go.Ev
theorem dig_wrap (j : Nat) : (IntKind.u8.wrap (IntKind.i64.wrap (48 + (j : Int).tmod 10))).toNat = 48 + j % 10 := by
  have e : (j : Int).tmod 10 = ((j % 10 : Nat) : Int) := by rw [Int.tmod_eq_emod_of_nonneg (by omega)]; omega
  rw [e, wrap_i64 (by omega) (by omega)]
  have : IntKind.u8.wrap (48 + ((j % 10 : Nat) : Int)) = 48 + ((j % 10 : Nat) : Int) := by
    unfold IntKind.wrap
    simp [IntKind.signed, IntKind.bits]
    omega
  rw [this]; omega
theorem mod3 (k : Nat) : decide ((k : Int).tmod 3 = 0) = decide (k % 3 = 0) := by
  have e : (k : Int).tmod 3 = ((k % 3 : Nat) : Int) := by rw [Int.tmod_eq_emod_of_nonneg (by omega)]; omega
  rw [e, Bool.eq_iff_iff]; simp; omega
/-- lists of plain things hold no id -/
theorem lim_map {α : Type} {e : α → V} (h : ∀ n x, (e x).lim n = true) (n : Nat) (l : List α) : limL n (l.map e) = true := by
  rw [limL_all]; simp [h]
@[simp] theorem lim_T (n : Nat) (l : List Typ) : limL n (l.map eT) = true := lim_map (fun n x => by simp [eT, V.lim, limL]) n l
@[simp] theorem lim_F (n : Nat) (l : List Fld) : limL n (l.map eF) = true := lim_map (fun n x => by simp [eF, V.lim, limL]) n l
@[simp] theorem lim_I (n : Nat) (l : List Ins) : limL n (l.map eI) = true := lim_map (fun n x => by simp [eI, V.lim, limL]) n l
@[simp] theorem lim_H (n : Nat) (l : List Hdl) : limL n (l.map eH) = true := lim_map (fun n x => by simp [eH, V.lim, limL]) n l
theorem mapL_mapf {α : Type} {e : α → V} (g : Nat → Option Nat) (h : ∀ x, (e x).mapId g = e x) (l : List α) : mapL g (l.map e) = l.map e := by
  rw [mapL_map, List.map_map]
  exact List.map_congr_left (fun x _ => h x)
@[simp] theorem mapL_T (g : Nat → Option Nat) (l : List Typ) : mapL g (l.map eT) = l.map eT := mapL_mapf g (fun _ => rfl) l
@[simp] theorem mapL_F (g : Nat → Option Nat) (l : List Fld) : mapL g (l.map eF) = l.map eF := mapL_mapf g (fun _ => rfl) l
@[simp] theorem mapL_I (g : Nat → Option Nat) (l : List Ins) : mapL g (l.map eI) = l.map eI := mapL_mapf g (fun _ => rfl) l
@[simp] theorem mapL_H (g : Nat → Option Nat) (l : List Hdl) : mapL g (l.map eH) = l.map eH := mapL_mapf g (fun _ => rfl) l
@[simp] theorem mapL_M (g : Nat → Option Nat) (l : List Mth) : mapL g (l.map oM) = l.map oM := mapL_mapf g (fun _ => rfl) l
@[simp] theorem mapL_C (g : Nat → Option Nat) (l : List Cls) : mapL g (l.map oC) = l.map oC := mapL_mapf g (fun _ => rfl) l
end Go.Proofs
namespace Go.Proofs
open Go Go.Ev
theorem mks_get {α : Type} {f : Nat → α} {c k n i : Nat} (h : i < n) (h' : i < (mks f c k n).length) : (mks f c k n)[i] = f (k + c * i) := by
  induction n generalizing k i with
  | zero => omega
  | succ n ih =>
    cases i with
    | zero => simp [mks]
    | succ i =>
      simp only [mks, List.getElem_cons_succ]
      rw [ih (by omega)]
      rw [show k + c + c * i = k + c * (i + 1) from by rw [Nat.mul_add]; omega]
structure FrO where
  f : Frm
  code : Int
  deriving DecidableEq, Inhabited
def eFo (x : FrO) : V := .agg [.lst false 3 (x.f.stack.map eT), .lst false 3 (x.f.locals.map eT), .int .i64 x.code]
def oFo (x : FrO) : V := .agg [.lst true 3 (x.f.stack.map eT), .lst true 3 (x.f.locals.map eT), .int .i64 x.code]
attribute [simp] eFo oFo
def zFo (c : Int) : FrO := ⟨⟨[], []⟩, c⟩
def bigFo (x : FrO) : Prop := x.f.stack.length < 4611686018427387904 ∧ x.f.locals.length < 4611686018427387904
/-- two lists of types, one by one -/
def lubLs (g : Typ → Typ → Typ) (a b : List Typ) : List Typ := List.zipWith g a b
theorem lubLs_len {g : Typ → Typ → Typ} {a b : List Typ} (h : a.length = b.length) : (lubLs g a b).length = a.length := by simp [lubLs, h]
theorem lubLs_snoc {g : Typ → Typ → Typ} {a b : List Typ} {i : Nat} (h : i < a.length) (e : a.length = b.length) :
    lubLs g (a.take (i + 1)) (b.take (i + 1)) = lubLs g (a.take i) (b.take i) ++ [g a[i] b[i]] := by
  unfold lubLs
  rw [List.take_succ_eq_append_getElem h, List.take_succ_eq_append_getElem (show i < b.length by omega), List.zipWith_append (by simp [e])]
  rfl
theorem lubLs_eq {l : List Cls} : ∀ {a b : List Typ}, a.all (knownT l) = true → b.all (knownT l) = true → lubLs (lubI l) a b = lubLs (lubT l) a b
  | [], _, _, _ => rfl
  | _ :: _, [], _, _ => rfl
  | x :: as', y :: bs, ha, hb => by
    simp only [List.all_cons, Bool.and_eq_true] at ha hb
    have := lubLs_eq ha.2 hb.2
    unfold lubLs at this ⊢
    simp only [List.zipWith_cons_cons]
    rw [lub_eq ha.1 hb.1, this]
def frmLubT (l : List Cls) (a b : Frm) : Frm := ⟨lubLs (lubT l) a.stack b.stack, lubLs (lubT l) a.locals b.locals⟩
def frmLubI (l : List Cls) (a b : Frm) : Frm := ⟨lubLs (lubI l) a.stack b.stack, lubLs (lubI l) a.locals b.locals⟩
theorem frmLub_eq {l : List Cls} {a b : Frm} (ha : frmR l a = true) (hb : frmR l b = true) : frmLubI l a b = frmLubT l a b := by
  simp only [frmR, Bool.and_eq_true] at ha hb
  unfold frmLubI frmLubT
  rw [lubLs_eq ha.2.2.1 hb.2.2.1, lubLs_eq ha.2.2.2 hb.2.2.2]
/-- the frame that two frames meet in -/
def frmLubW (l : List Cls) (a b : Frm) : FrO :=
  if 400 < l.length then zFo 2
  else if (frmRightW l a && (frmR l b && decide (a.locals.length = b.locals.length))) = true then
    (if a.stack.length = b.stack.length then ⟨frmLubT l a b, 0⟩ else zFo 11)
  else zFo 1
theorem frmR_len {l : List Cls} {f : Frm} (h : frmR l f = true) : f.stack.length ≤ 16 ∧ f.locals.length ≤ 16 := by
  simp only [frmR, Bool.and_eq_true, decide_eq_true_eq] at h
  exact ⟨h.1, h.2.1⟩
end Go.Proofs
namespace Go.Proofs
open Go Go.Ev
theorem mid_jk {p : Nat → Bool} {x : V} {Y Z : List V} (hY : jkL p Y = Y) (hZ : jkL p Z = Z) : jkL p (Y ++ x :: Z) = Y ++ x.jk p :: Z := by
  rw [jkL_map] at hY hZ ⊢
  rw [List.map_append, List.map_cons, hY, hZ]
@[simp] theorem lim_M (n : Nat) (l : List Mth) : limL n (l.map oM) = true := lim_map (fun n x => by simp [oM, V.lim, limL]) n l
@[simp] theorem lim_C (n : Nat) (l : List Cls) : limL n (l.map oC) = true := lim_map (fun n x => by simp [oC, V.lim, limL]) n l
theorem jk_oM (p : Nat → Bool) (l : List Mth) : jkL p (l.map oM) = l.map oM := jkL_mapf p oM (fun _ => rfl) l
theorem jk_oC (p : Nat → Bool) (l : List Cls) : jkL p (l.map oC) = l.map oC := jkL_mapf p oC (fun x => by simp [oC, V.pure, pureL]) l
def cntM (x : Mth) : Nat := 7 + 5 * x.code.length + 4 * x.hdls.length
def cntMs : List Mth → Nat
  | [] => 0
  | x :: l => cntM x + cntMs l
def mkM (k : Nat) (x : Mth) : Mth := ⟨mText k, mText (k + 1), decide ((k + 2) % 3 = 0), decide ((k + 3) % 3 = 0), decide ((k + 4) % 3 = 0), ((k + 5 : Nat) : Int), ((k + 6 : Nat) : Int), mks mkI 5 (k + 7) x.code.length, mks mkH 4 (k + 7 + 5 * x.code.length) x.hdls.length⟩
def mkMs (k : Nat) : List Mth → List Mth
  | [] => []
  | x :: l => mkM k x :: mkMs (k + cntM x) l
theorem cntMs_snoc : ∀ {l : List Mth} {i : Nat} (h : i < l.length), cntMs (l.take (i + 1)) = cntMs (l.take i) + cntM l[i]
  | x :: l, 0, _ => by simp [cntMs]
  | x :: l, i + 1, h => by
    have := cntMs_snoc (l := l) (i := i) (by simpa using h)
    simp only [List.take_succ_cons, cntMs, List.getElem_cons_succ]
    omega
theorem mkMs_snoc : ∀ {l : List Mth} {k i : Nat} (h : i < l.length), mkMs k (l.take (i + 1)) = mkMs k (l.take i) ++ [mkM (k + cntMs (l.take i)) l[i]]
  | x :: l, k, 0, _ => by simp [cntMs, mkMs]
  | x :: l, k, i + 1, h => by
    have := mkMs_snoc (l := l) (k := k + cntM x) (i := i) (by simpa using h)
    simp only [List.take_succ_cons, mkMs, cntMs, List.getElem_cons_succ, List.cons_append]
    rw [this, Nat.add_assoc]
theorem mkMs_len : ∀ {l : List Mth} {k : Nat}, (mkMs k l).length = l.length
  | [], _ => rfl
  | x :: l, k => by simp [mkMs, mkMs_len]
theorem take_mks {α : Type} {f : Nat → α} {e : α → V} {c k n : Nat} : ((mks f c k n).map e).take n = (mks f c k n).map e := List.take_of_length_le (by simp [mks_len])
theorem take_mkMs {l : List Mth} {k : Nat} : ((mkMs k l).map oM).take l.length = (mkMs k l).map oM := List.take_of_length_le (by simp [mkMs_len])
theorem cntMs_take : ∀ (l : List Mth) (i : Nat), cntMs (l.take i) ≤ cntMs l
  | [], i => by simp
  | x :: l, 0 => by simp [cntMs]
  | x :: l, i + 1 => by simp only [List.take_succ_cons, cntMs]; have := cntMs_take l i; omega
theorem cntMs_at (l : List Mth) (i : Nat) (h : i < l.length) : cntMs (l.take i) + cntM l[i] ≤ cntMs l := by
  rw [← cntMs_snoc h]; exact cntMs_take l _
def cntC (x : Cls) : Nat := 4 + 3 * x.fields.length + cntMs x.methods
def cntCs : List Cls → Nat
  | [] => 0
  | x :: l => cntC x + cntCs l
def mkC (k : Nat) (x : Cls) : Cls := ⟨mText k, mText (k + 1), decide ((k + 2) % 3 = 0), decide ((k + 3) % 3 = 0), mks mkF 3 (k + 4) x.fields.length, mkMs (k + 4 + 3 * x.fields.length) x.methods⟩
def mkCs (k : Nat) : List Cls → List Cls
  | [] => []
  | x :: l => mkC k x :: mkCs (k + cntC x) l
theorem cntCs_snoc : ∀ {l : List Cls} {i : Nat} (h : i < l.length), cntCs (l.take (i + 1)) = cntCs (l.take i) + cntC l[i]
  | x :: l, 0, _ => by simp [cntCs]
  | x :: l, i + 1, h => by
    have := cntCs_snoc (l := l) (i := i) (by simpa using h)
    simp only [List.take_succ_cons, cntCs, List.getElem_cons_succ]
    omega
theorem mkCs_snoc : ∀ {l : List Cls} {k i : Nat} (h : i < l.length), mkCs k (l.take (i + 1)) = mkCs k (l.take i) ++ [mkC (k + cntCs (l.take i)) l[i]]
  | x :: l, k, 0, _ => by simp [cntCs, mkCs]
  | x :: l, k, i + 1, h => by
    have := mkCs_snoc (l := l) (k := k + cntC x) (i := i) (by simpa using h)
    simp only [List.take_succ_cons, mkCs, cntCs, List.getElem_cons_succ, List.cons_append]
    rw [this, Nat.add_assoc]
theorem mkCs_len : ∀ {l : List Cls} {k : Nat}, (mkCs k l).length = l.length
  | [], _ => rfl
  | x :: l, k => by simp [mkCs, mkCs_len]
theorem cntCs_take : ∀ (l : List Cls) (i : Nat), cntCs (l.take i) ≤ cntCs l
  | [], i => by simp
  | x :: l, 0 => by simp [cntCs]
  | x :: l, i + 1 => by simp only [List.take_succ_cons, cntCs]; have := cntCs_take l i; omega
theorem cntCs_at (l : List Cls) (i : Nat) (h : i < l.length) : cntCs (l.take i) + cntC l[i] ≤ cntCs l := by
  rw [← cntCs_snoc h]; exact cntCs_take l _
theorem cntMs_len : ∀ l : List Mth, l.length ≤ cntMs l
  | [] => by simp
  | x :: l => by have := cntMs_len l; simp only [List.length_cons, cntMs, cntM]; omega
theorem cntCs_len : ∀ l : List Cls, l.length ≤ cntCs l
  | [] => by simp
  | x :: l => by have := cntCs_len l; simp only [List.length_cons, cntCs, cntC]; omega
theorem cntMs_size : ∀ l : List Mth, cntMs l ≤ 7 * (l.length + (l.map sizeM).sum)
  | [] => by simp [cntMs]
  | x :: l => by
    have := cntMs_size l
    simp only [List.length_cons, List.map_cons, List.sum_cons, cntMs, cntM, sizeM]; omega
theorem cntCs_size : ∀ l : List Cls, cntCs l ≤ 7 * (l.length + (l.map sizeC).sum)
  | [] => by simp [cntCs]
  | x :: l => by
    have := cntCs_size l
    have := cntMs_size x.methods
    simp only [List.length_cons, List.map_cons, List.sum_cons, cntCs, cntC, sizeC]; omega
theorem zip_le {g : Typ → Typ → Typ} {a b : List Typ} : (lubLs g a b).length ≤ a.length := by
  unfold lubLs; rw [List.length_zipWith]; omega
theorem frmLubW_len (l : List Cls) (a b : Frm) : (frmLubW l a b).f.stack.length ≤ a.stack.length ∧ (frmLubW l a b).f.locals.length ≤ a.locals.length := by
  unfold frmLubW
  split
  · simp [zFo]
  · split
    · split
      · exact ⟨zip_le, zip_le⟩
      · simp [zFo]
    · simp [zFo]
attribute [simp] Go.Ev.seen
theorem solidL_mapf {α : Type} {f : α → V} (h : ∀ x, (f x).solid = true) : ∀ l : List α, solidL (l.map f) = true
  | [] => rfl
  | x :: l => by simp [solidL, h x, solidL_mapf h l]
@[simp] theorem solidL_T (l : List Typ) : solidL (l.map eT) = true := solidL_mapf (fun _ => rfl) l
theorem bigFo_lub {l : List Cls} {a b : Frm} (h : bigFr a) : bigFo (frmLubW l a b) := by
  have := frmLubW_len l a b
  exact ⟨Nat.lt_of_le_of_lt this.1 h.1, Nat.lt_of_le_of_lt this.2 h.2.2.1⟩
@[simp] theorem nn5 {a b c d e : Nat} : (0 ≤ 1 + (a : Int) + 3 * (b : Int) + 3 * (c : Int) + 3 * (d : Int) + 3 * (e : Int)) = True := by simp; omega
attribute [simp] mks_len take_mks mkMs_len take_mkMs
end Go.Proofs
namespace Go.Proofs
open Go Go.Ev
attribute [simp] St.swap gSw swp
section
variable {X : Ctx} {ops : Array Oper} {l rest : List Oper} {ls : List Oper} {st s0 s1 s2 s3 : St} {o : Oper} {n0 : Nat} {Q : Exit → St → Prop}
theorem jNs {i : Nat} {L : List Nat} {t : Tr} {s s' : St} (ho : ops[i]? = some o := by rfl) (hL : ∀ id ∈ L, id < s.ob.length := by simp) (p : ∀ X : Ctx, X.n0 = s.ob.length → Runs Tryz.prog X ops [o] ⟨s.tm, hid L s.ob⟩ s') (he : (⟨s'.tm, unh s.ob L s'.ob⟩ : St) = s1 := by (try simp); (try rfl)) (k : StepsW Tryz.prog ops n0 L t s1 s2) : StepsW Tryz.prog ops n0 L (.one i t) s s2 := .one ho hL p he k
theorem jKs {id : Nat} {y : Code} (n : Nat) (A : List Nat) (t : Tr) (ks L : List Nat) (hX : X.n0 = n0) (hA : runTk TT n0 ls.toArray L A st = some s1) (hH : StepsW Tryz.prog ls.toArray n0 L t s1 s2) (h2 : Runs Tryz.prog X ls.toArray (ls.drop n) s2 s3) (hk : W Tryz.prog X y (s3.keep ks) Q)
    (hB : treeB .any ls.toArray n A t = true := by kernel_rfl) : W Tryz.prog X (.seq (.region id ls.toArray true) y) st Q := W_tseqS n A t ks L hmo hB tok hX hA hH h2 hk
theorem jW {L : List Nat} {t : Tr} {s : St} (a b : Nat) (k : StepsW Tryz.prog ops n0 L t s1 s2) (he : s.swap a b = s1) (hb : n0 ≤ a ∧ n0 ≤ b ∧ a < s.ob.length ∧ b < s.ob.length := by simp) (hl : a ∉ L ∧ b ∉ L := by decide) : StepsW Tryz.prog ops n0 L t s s2 := .sw hb hl he k
end
end Go.Proofs
namespace Go.Proofs
open Go Go.Ev
section
variable {X : Ctx} {ops : Array Oper} {ls : List Oper} {st s s1 s2 s3 : St} {n0 : Nat} {Q : Exit → St → Prop} {t u : Ti}
theorem jV {id : Nat} {y : Code} (n : Nat) (t : Ti) (ks : List Nat) (hX : X.n0 = n0) (hH : StepsL Tryz.prog TT n0 ls.toArray t st s2) (h2 : Runs Tryz.prog X ls.toArray (ls.drop n) s2 s3) (hk : W Tryz.prog X y (s3.keep ks) Q)
    (hB : tisB .any ls.toArray n t = true := by kernel_rfl) : W Tryz.prog X (.seq (.region id ls.toArray true) y) st Q := W_tiseqK n t ks hmo hB tok hX hH h2 hk
theorem jVr {id : Nat} (n : Nat) (t : Ti) (hX : X.n0 = n0) (hH : StepsL Tryz.prog TT n0 ls.toArray t st s2) (h2 : Runs Tryz.prog X ls.toArray (ls.drop n) s2 s3) (hq : Q .normal s3)
    (hB : tisB .any ls.toArray n t = true := by kernel_rfl) : W Tryz.prog X (.region id ls.toArray true) st Q := W_tis hmo hB tok hX hH h2 hq
theorem jVp {i : Nat} (h : runTk TT n0 ops [] [i] s = some s1) (k : StepsL Tryz.prog TT n0 ops t s1 s2) : StepsL Tryz.prog TT n0 ops (.pur i t) s s2 := .pur h k
theorem jVo {i : Nat} {o : Oper} (ho : ops[i]? = some o := by rfl) (p : ∀ X : Ctx, X.n0 = n0 → Runs Tryz.prog X ops [o] s s1) (k : StepsL Tryz.prog TT n0 ops t s1 s2) : StepsL Tryz.prog TT n0 ops (.one i t) s s2 := .one ho p k
theorem jVt {i j : Nat} (h1 : StepsL Tryz.prog TT n0 ops (.one i t) s s2) (h2 : StepsL Tryz.prog TT n0 ops (.one j u) s s2) : StepsL Tryz.prog TT n0 ops (.two i j t u) s s2 := .two h1 h2
end
end Go.Proofs
namespace Go.Proofs
open Go Go.Ev
def smI (x : Ins) : Prop := x.cls.length ≤ 40 ∧ x.name.length ≤ 40 ∧ x.desc.length ≤ 40
structure smM (m : Mth) : Prop where
  n : m.name.length ≤ 40
  d : m.desc.length ≤ 40
  c : m.code.length ≤ 70
  h : m.hdls.length ≤ 4
  ci : ∀ x ∈ m.code, smI x
  hi : ∀ x ∈ m.hdls, x.cls.length ≤ 40
theorem smI_nil : smI ⟨5, 0, [], [], []⟩ := ⟨by decide, by decide, by decide⟩
theorem all_app {α : Type} {P : α → Prop} {l : List α} {x : α} (h : ∀ y ∈ l, P y) (hx : P x) : ∀ y ∈ l ++ [x], P y := fun y hy => by
  rcases List.mem_append.1 hy with hy | hy
  · exact h y hy
  · rw [List.mem_singleton.1 hy]; exact hx
end Go.Proofs
namespace Go.Proofs
open Go Go.Ev
theorem sum_le {α : Type} {f : α → Nat} {k : Nat} : ∀ {l : List α}, (∀ x ∈ l, f x ≤ k) → (l.map f).sum ≤ l.length * k
  | [], _ => by simp
  | x :: l, h => by
    have h1 := h x (by simp)
    have h2 := sum_le (l := l) fun y hy => h y (by simp [hy])
    simp only [List.map_cons, List.sum_cons, List.length_cons, Nat.add_mul]; omega
theorem smM_size {m : Mth} (h : smM m) : sizeM m ≤ 20000 := by
  have h1 := sum_le (f := sizeI) (k := 120) (l := m.code) fun x hx => by have := h.ci x hx; simp only [smI] at this; simp only [sizeI]; omega
  have h2 := sum_le (f := sizeH) (k := 40) (l := m.hdls) fun x hx => by have := h.hi x hx; simp only [sizeH]; omega
  have := h.n; have := h.d; have := h.c; have := h.h
  simp only [sizeM]; omega
def smF (x : Fld) : Prop := x.name.length ≤ 40 ∧ x.type.length ≤ 40
structure smC (c : Cls) : Prop where
  n : c.name.length ≤ 40
  u : c.super.length ≤ 40
  f : c.fields.length ≤ 4
  m : c.methods.length ≤ 4
  fi : ∀ x ∈ c.fields, smF x
  mi : ∀ x ∈ c.methods, smM x
theorem smC_size {c : Cls} (h : smC c) : sizeC c ≤ 90000 := by
  have h1 := sum_le (f := sizeF) (k := 80) (l := c.fields) fun x hx => by have := h.fi x hx; simp only [smF] at this; simp only [sizeF]; omega
  have h2 := sum_le (f := sizeM) (k := 20000) (l := c.methods) fun x hx => smM_size (h.mi x hx)
  have := h.n; have := h.u; have := h.f; have := h.m
  simp only [sizeC]; omega
theorem sat3 {k : Nat} (h : k < 3) (a b c : Str) : ([V.str a, V.str b, V.str c] : List V)[k]? = some (.str (atL [a, b, c] k)) := by
  match k, h with
  | 0, _ => rfl
  | 1, _ => rfl
  | 2, _ => rfl
theorem sat3A {k : Nat} (h : k < 3) (a b c : Str) : atV [V.str a, V.str b, V.str c] k = .str (atL [a, b, c] k) := by
  match k, h with
  | 0, _ => rfl
  | 1, _ => rfl
  | 2, _ => rfl
theorem sat3' {k : Nat} (h : k < 3) (a b c : Str) : ([V.str a, V.str b, V.str c] : List V)[k]'h = .str (atL [a, b, c] k) := by
  match k, h with
  | 0, _ => rfl
  | 1, _ => rfl
  | 2, _ => rfl
end Go.Proofs
namespace Go.Proofs
theorem sat3L : ∀ k, ∀ h : k < 3, (([[120], [121], [122]] : List Str)[k]'h).length ≤ 1
  | 0, _ => Nat.le_refl _
  | 1, _ => Nat.le_refl _
  | 2, _ => Nat.le_refl _
end Go.Proofs
namespace Go.Proofs
open Go Go.Ev
theorem sat4 {k : Nat} (h : k < 4) (a b c d : Str) : ([V.str a, V.str b, V.str c, V.str d] : List V)[k]? = some (.str (atL [a, b, c, d] k)) := by
  match k, h with
  | 0, _ => rfl
  | 1, _ => rfl
  | 2, _ => rfl
  | 3, _ => rfl
theorem sat4' {k : Nat} (h : k < 4) (a b c d : Str) : ([V.str a, V.str b, V.str c, V.str d] : List V)[k]'h = .str (atL [a, b, c, d] k) := by
  match k, h with
  | 0, _ => rfl
  | 1, _ => rfl
  | 2, _ => rfl
  | 3, _ => rfl
theorem nam_le {k : Nat} (h : k < 4) : (atL [[65], [66], [67], [68]] k : Str).length ≤ 40 := by
  match k, h with
  | 0, _ => decide
  | 1, _ => decide
  | 2, _ => decide
  | 3, _ => decide
theorem nam_le' {k : Nat} (h : k < 4) (h' : k < ([[65], [66], [67], [68]] : List Str).length) : (([[65], [66], [67], [68]] : List Str)[k]'h').length ≤ 40 := by
  match k, h with
  | 0, _ => simp
  | 1, _ => simp
  | 2, _ => simp
  | 3, _ => simp
theorem cls_YZ {l : List Cls} {j : Nat} (hj : j < l.length) : ∃ Y Z, l.map oC = Y ++ oC l[j] :: Z ∧ (∀ x, (l.set j x).map oC = Y ++ oC x :: Z) ∧ Y.length = j ∧ j + (Z.length + 1) = l.length ∧ (∀ p, jkL p Y = Y) ∧ (∀ p, jkL p Z = Z) := by
  have e : l = l.take j ++ l[j] :: l.drop (j + 1) := by rw [← List.drop_eq_getElem_cons hj, List.take_append_drop]
  refine ⟨(l.take j).map oC, (l.drop (j + 1)).map oC, ?_, fun x => ?_, by rw [List.length_map, List.length_take]; omega, by rw [List.length_map, List.length_drop]; omega, fun p => jk_oC p _, fun p => jk_oC p _⟩
  · conv => lhs; rw [e]
    rw [List.map_append, List.map_cons]
  · rw [List.set_eq_take_append_cons_drop, if_pos hj]; simp
theorem set_all {α : Type} {P : α → Prop} {l : List α} {j : Nat} {x : α} (h : ∀ y ∈ l, P y) (hx : P x) : ∀ y ∈ l.set j x, P y := fun y hy => by
  rcases List.mem_or_eq_of_mem_set hy with hy | rfl
  · exact h y hy
  · exact hx
end Go.Proofs
namespace Go.Proofs
open Go Go.Ev
theorem lubW_yes {l : List Cls} {a b : Typ} (ha : typeKnownW l a = true) (hb : typeKnownW l b = true) : rightW l = true ∧ knownT l a = true ∧ knownT l b = true ∧ lubW l a b = lubT l a b := by
  simp only [typeKnownW, Bool.and_eq_true] at ha hb
  exact ⟨ha.1, ha.2, hb.2, by rw [lubW, if_pos (by simp [ha.1, ha.2, hb.2])]⟩
theorem lubW_comm (l : List Cls) (a b : Typ) : lubW l b a = lubW l a b := by
  by_cases h : (rightW l && knownT l a && knownT l b) = true
  · have h2 := h
    simp only [Bool.and_eq_true] at h2
    rw [lubW, lubW, if_pos h, if_pos (by simp [h2.1.1, h2.1.2, h2.2]), lub_comm h2.1.1 h2.1.2 h2.2]
  · rw [lubW, lubW, if_neg h, if_neg (fun e => h (by simp only [Bool.and_eq_true] at e ⊢; exact ⟨⟨e.1.1, e.2⟩, e.1.2⟩))]
theorem lubW_self {l : List Cls} {a : Typ} (ha : typeKnownW l a = true) : lubW l a a = a := by
  rw [(lubW_yes ha ha).2.2.2]; unfold lubT; rw [if_pos rfl]
theorem lubW_up {l : List Cls} {a b : Typ} (ha : typeKnownW l a = true) (hb : typeKnownW l b = true) : leW l a (lubW l a b) = true ∧ leW l b (lubW l a b) = true := by
  obtain ⟨h1, h2, h3, h4⟩ := lubW_yes ha hb
  have h5 := lub_known h1 h2 h3
  obtain ⟨h6, h7⟩ := lub_up h1 h2 h3
  rw [h4]; simp [leW, h1, h2, h3, h5, h6, h7]
theorem lubW_least {l : List Cls} {a b c : Typ} (h1 : leW l a c = true) (h2 : leW l b c = true) : leW l (lubW l a b) c = true := by
  simp only [leW, Bool.and_eq_true] at h1 h2
  obtain ⟨⟨hw, ha⟩, hc, hac⟩ := h1
  obtain ⟨⟨_, hb⟩, _, hbc⟩ := h2
  rw [lubW, if_pos (by simp [hw, ha, hb])]
  simp [leW, hw, lub_known hw ha hb, hc, lub_least hw ha hb hc hac hbc]
theorem lubW_un {l : List Cls} {a b : Typ} (h : typeKnownW l a = false ∨ typeKnownW l b = false) : lubW l a b = zT := by
  rw [lubW, if_neg (fun e => by
    simp only [Bool.and_eq_true] at e
    simp only [typeKnownW] at h
    rcases h with h | h <;> simp [e.1.1, e.1.2, e.2] at h)]
theorem world_size {l : List Cls} (h1 : l.length ≤ 12) (h2 : ∀ x ∈ l, sizeC x ≤ 100000) : sizeL l ≤ 1500000 := by
  have := sum_le h2
  unfold sizeL
  have : l.length * 100000 ≤ 12 * 100000 := Nat.mul_le_mul_right _ h1
  omega
end Go.Proofs
namespace Go.Proofs
open Go Go.Ev

attribute [local irreducible] nS nV wordS wordV ltyS ltyV pickV l06T
theorem cb_spec_l01Source : Callable Tryz.prog 36 := ⟨_, Tryz.func36, by kernel_rfl, by kernel_rfl⟩
theorem ct_spec_l01Source {c : List Int} (hc : c.length ≤ 1099511627776) : CtE Tryz.prog 36 [.lst false 1 (c.map bV)] [] (fun r ob' => ∃ s' : Src, r = .bx 4 (vSrc s') ∧ ob' = [] ∧ okS s') := by
  refine Ct_bodyE tok Tryz.func36 rfl 47 (by kernel_rfl) (by kernel_rfl) fun X hX => ?_
  refine W_rseqK [0] (jh hX (by simp [shft]; rfl)) ?_
  refine W_rseqK [0, 3] (jh hX (by simp [shft]; rfl)) ?_
  refine W_seq (W_rseqK [0, 3, 4] (jh hX (by simp [shft]; rfl)) ?_)
  refine W_block (W_loopU (α := Nat × Int) [0, 3, 4] (fun p => [(4, .int .i64 p.1)]) (fun p => [(0, some (4, [vSrc ⟨c, 0, p.2, 0⟩]))]) (fun p => p.1 ≤ c.length) (fun p => c.length - p.1) ((0, 88172645463325252)) (fun p => by simp; rfl) (by simp) ?_ ?_)
  · simp
  rintro ⟨i, m⟩ hi
  simp only at hi
  have wi : IntKind.i64.wrap ((i : Int) + 1) = i + 1 := wrap_i64 (by omega) (by omega)
  refine W_seq (W_rseqK [0, 3, 4, 15] (js hX 5 (by simp [wi, shft]; rfl) (jm 3 12 [0, 3, 4, 15] (p:=fun b3_5 => by (try simp at b3_5); (skip); exact (jh hX (by simp [-atD_lt, -atL_lt, wi, b3_5, b3_5, shft]; rfl))) (q:=fun b3_5 => by (try simp at b3_5); exact (jh hX (by simp [-atD_lt, -atL_lt, wi, b3_5, shft]; rfl))) (k:=jf))) ?_)
  refine jd (fun h3 => ?_) (fun h3 => ?_)
  · try simp at h3
    have h3b : i < c.length := h3.1
    refine W_skip (W_seq (W_block (W_held (n := 12) (A := [0, 1, 2, 3, 4, 5, 6, 7, 8, 9, 10, 11]) (B := []) (L := [0]) hmo (by kernel_rfl) tok hX (by simp [wi, h3, h3b, shft]; rfl) .nil (jh hX (by simp [wi, h3, h3b, shft]; rfl)) ?_)))
    refine W_reg (jh hX (by simp [wi, h3, h3b, shft]; (try (simp (disch := omega) only [wrap_i64]; (try simp [wi, h3, h3b, shft]))); rfl)) ?_
    refine round_endT ((i + 1, _)) [0, 3, 4] 1 (by simp [hX]) (by simp) (Eq.trans (by simp [wi]; rfl) (by rfl)) ?_ ?_
    · simp only; omega
    · simp only; omega
  · try simp at h3
    refine W_exit (W_rseqK [3] (jh hX (by simp [wi, h3, shft]; rfl)) ?_)
    have wq : IntKind.i64.wrap ((c.length : Int) / 20) = c.length / 20 := wrap_i64 (by omega) (by omega)
    refine W_seq (W_rseqK [3, 42] (jh hX (by simp [wi, h3, shft]; rfl)) ?_)
    refine jd (fun h7 => ?_) (fun h7 => ?_)
    · try simp at h7
      refine W_reg (jh hX (by simp [wi, h3, h7, shft]; rfl)) ?_
      refine W_rseqK [2] (jh hX (by simp [wi, h3, h7, shft]; rfl)) ?_
      refine W_ret (DoneE.ret (Eq.trans (by simp [wi, h3, h7, shft]; rfl) (by rfl)) ?_)
      first | (rw [wq] at h7 ⊢; exact ⟨⟨c, 0, m, (c.length : Int) / 20⟩, rfl, rfl, Nat.zero_le _, hc, by simp only; omega, by simp only; omega⟩) | exact ⟨⟨c, 0, m, 12⟩, rfl, rfl, Nat.zero_le _, hc, by (simp; done), by (simp; done)⟩
    · try simp at h7
      refine W_skip (W_rseqK [2] (jh hX (by simp [wi, h3, h7, shft]; rfl)) ?_)
      refine W_ret (DoneE.ret (Eq.trans (by simp [wi, h3, h7, shft]; rfl) (by rfl)) ?_)
      first | (rw [wq] at h7 ⊢; exact ⟨⟨c, 0, m, (c.length : Int) / 20⟩, rfl, rfl, Nat.zero_le _, hc, by simp only; omega, by simp only; omega⟩) | exact ⟨⟨c, 0, m, 12⟩, rfl, rfl, Nat.zero_le _, hc, by (simp; done), by (simp; done)⟩
end Go.Proofs
namespace Go.Proofs
open Go Go.Ev


theorem cb_spec_l01Src_n : Callable Tryz.prog 81 := ⟨_, Tryz.func81, by kernel_rfl, by kernel_rfl⟩
theorem ct_spec_l01Src_n {s : Src} (hs : okS s) {m : Int} (hm : m < 9223372036854775808) : Ct Tryz.prog 81 [.ptr 0 0 0, .int .i64 m] [oSrc s] (.int .i64 (nV s m)) [oSrc (nS s m)] := by
  obtain ⟨hs1, hs2, hs3, hs4⟩ := hs
  refine Ct_bodyS tok Tryz.func81 rfl 87 (by kernel_rfl) (by kernel_rfl) fun X hX => ?_
  refine jq [0, 1] ?_
  refine W_seq (jq [0, 1, 7] ?_)
  refine jd (fun h1 => ?_) (fun h1 => ?_)
  · try simp at h1
    refine W_rseqK [4] (jh hX (by simp [h1]; rfl)) ?_
    refine W_ret (W_retR2 (by simp [h1]; rfl) (by rfl) (.of_eq ?_) ?_)
    all_goals clear hX
    · skip
      rw [nV, if_pos h1]
    · skip
      simp [nS, h1]
  · try simp at h1
    have hm1 : IntKind.u64.wrap m = m := wrap_u64 (by omega) (by omega)
    have hm0 : m ≠ 0 := by omega
    refine W_skip (W_rseqK [0, 1, 5] (jh hX (by simp [h1, hm1, hm0]; rfl)) ?_)
    refine W_seq (jD [0, 1, 5, 17] (jQ (by simp [h1, hm1, hm0]; rfl)) ?_)
    refine jd (fun h4 => ?_) (fun h4 => ?_)
    · try simp at h4
      have h4b : s.pos < s.code.length := by omega
      have hw : IntKind.i64.wrap ((s.pos : Int) + 1) = s.pos + 1 := wrap_i64 (by omega) (by omega)
      refine jD [0, 1, 5] (jQ (by simp [h1, hm1, hm0, h4, h4b, hw]; rfl)) ?_
      refine W_reg (jh hX (by simp [h1, hm1, hm0, h4, h4b, hw]; (try (simp (disch := omega) only [wrap_i64]; (try simp [h1, hm1, hm0, h4, h4b, hw]))); rfl)) ?_
      refine jL 11 [0, 1, 2, 3, 4, 5, 6, 7, 8, 9, 10] [] [0, 1, 5] ([0]) hX (by simp [h1, hm1, hm0, h4, h4b, hw]; rfl) .nil (jh hX (by simp [h1, hm1, hm0, h4, h4b, hw]; rfl)) ?_
      rw [← mxA_eq]
      refine jL 11 [0, 1, 2, 3, 4, 5, 6, 7, 8, 9, 10] [] [0, 1, 5] ([0]) hX (by simp [h1, hm1, hm0, h4, h4b, hw]; rfl) .nil (jh hX (by simp [h1, hm1, hm0, h4, h4b, hw]; rfl)) ?_
      rw [← mxB_eq]
      refine jL 11 [0, 1, 2, 3, 4, 5, 6, 7, 8, 9, 10] [] [0, 1, 5] ([0]) hX (by simp [h1, hm1, hm0, h4, h4b, hw]; rfl) .nil (jh hX (by simp [h1, hm1, hm0, h4, h4b, hw]; rfl)) ?_
      rw [← mxC_eq]
      refine W_rseqK [4] (jh hX (by simp [h1, hm1, hm0, h4, h4b, hw, shft]; (try (simp (disch := omega) only [wrap_i64]; (try simp [h1, hm1, hm0, h4, h4b, hw, shft]))); rfl)) ?_
      refine W_ret (W_retR2 (by simp [h1, hm1, hm0, h4, h4b, hw, shft]; rfl) (by rfl) (.of_eq ?_) ?_)
      all_goals clear hX
      · skip
        simp [nV, n0V, mx, h4, show ¬ m ≤ 1 from by omega]
      · skip
        simp [nS, mx, h4, show ¬ m ≤ 1 from by omega]
    · try simp at h4
      have h4 : ¬ s.pos < s.code.length := by simpa using h4
      refine W_skip (jL 11 [0, 1, 2, 3, 4, 5, 6, 7, 8, 9, 10] [] [0, 1, 5] ([0]) hX (by simp [h1, hm1, hm0, h4]; rfl) .nil (jh hX (by simp [h1, hm1, hm0, h4]; rfl)) ?_)
      rw [← mxA_eq]
      refine jL 11 [0, 1, 2, 3, 4, 5, 6, 7, 8, 9, 10] [] [0, 1, 5] ([0]) hX (by simp [h1, hm1, hm0, h4]; rfl) .nil (jh hX (by simp [h1, hm1, hm0, h4]; rfl)) ?_
      rw [← mxB_eq]
      refine jL 11 [0, 1, 2, 3, 4, 5, 6, 7, 8, 9, 10] [] [0, 1, 5] ([0]) hX (by simp [h1, hm1, hm0, h4]; rfl) .nil (jh hX (by simp [h1, hm1, hm0, h4]; rfl)) ?_
      rw [← mxC_eq]
      refine W_rseqK [4] (jh hX (by simp [h1, hm1, hm0, h4, shft]; (try (simp (disch := omega) only [wrap_i64]; (try simp [h1, hm1, hm0, h4, shft]))); rfl)) ?_
      refine W_ret (W_retR2 (by simp [h1, hm1, hm0, h4, shft]; rfl) (by rfl) (.of_eq ?_) ?_)
      all_goals clear hX
      · skip
        simp [nV, n0V, mx, h4, show ¬ m ≤ 1 from by omega]
      · skip
        simp [nS, mx, h4, show ¬ m ≤ 1 from by omega]
end Go.Proofs
namespace Go.Proofs
open Go Go.Ev


theorem cb_spec_l01Src_pick : Callable Tryz.prog 82 := ⟨_, Tryz.func82, by kernel_rfl, by kernel_rfl⟩
theorem ct_spec_l01Src_pick_f {s : Src} (hs : okS s) {l : List Str} (h0 : 0 < l.length) (h1 : l.length ≤ 1099511627776) : Ct Tryz.prog 82 [.ptr 0 0 0, .lst false 1 (l.map V.str)] [oSrc s] (.str (pickV l s)) [oSrc (nS s l.length)] := by
  obtain ⟨a0, b0, c0⟩ := nV_r s (m := l.length) (by omega)
  obtain ⟨k, hk⟩ : ∃ k : Nat, nV s l.length = k := ⟨(nV s l.length).toNat, by omega⟩
  have hkl : k < l.length := by
    by_cases h2 : (1 : Int) < l.length
    · have := b0 h2; omega
    · have := c0 (by omega); omega
  refine Ct_bodyS tok Tryz.func82 rfl 12 (by kernel_rfl) (by kernel_rfl) fun X hX => ?_
  refine W_rseqK [0, 1] (jh hX (by simp [hk, hkl]; rfl)) ?_
  refine W_rseqK [4] (js hX 4 (by simp [hk, hkl]; rfl) (jc [0] (c:=(by apply ct_spec_l01Src_n <;> first | omega | assumption | decide | exact nS_ok (by assumption) _ | exact nS_ok (nS_ok (by assumption) _) _ | ((repeat apply nS_ok); assumption))) (a:=cb_spec_l01Src_n) (k:=(jh hX (by simp [hk, hkl]; rfl))))) ?_
  refine W_ret (W_retR2 (by simp [hk, hkl]; rfl) (by rfl) (.of_eq ?_) ?_)
  all_goals clear hX
  · skip
    simp [pickV, hk, hkl]
  · skip
    simp
theorem ct_spec_l01Src_pick {s : Src} (hs : okS s) {l : List Str} (h0 : 0 < l.length) (h1 : l.length ≤ 1099511627776) : Ct Tryz.prog 82 [.ptr 0 0 0, .arr 1 0 l.length] [oSrc s, some (1, l.map V.str)] (.str (pickV l s)) [oSrc (nS s l.length), some (1, l.map V.str)] := by
  obtain ⟨a0, b0, c0⟩ := nV_r s (m := l.length) (by omega)
  obtain ⟨k, hk⟩ : ∃ k : Nat, nV s l.length = k := ⟨(nV s l.length).toNat, by omega⟩
  have hkl : k < l.length := by
    by_cases h2 : (1 : Int) < l.length
    · have := b0 h2; omega
    · have := c0 (by omega); omega
  refine Ct_bodyS tok Tryz.func82 rfl 12 (by kernel_rfl) (by kernel_rfl) fun X hX => ?_
  refine W_rseqK [0, 1] (jh hX (by simp [hk, hkl]; rfl)) ?_
  refine W_rseqK [4] (js hX 4 (by simp [hk, hkl]; rfl) (jc [0] (c:=(by apply ct_spec_l01Src_n <;> first | omega | assumption | decide | exact nS_ok (by assumption) _ | exact nS_ok (nS_ok (by assumption) _) _ | ((repeat apply nS_ok); assumption))) (a:=cb_spec_l01Src_n) (k:=(jh hX (by simp [hk, hkl]; rfl))))) ?_
  refine W_ret (W_retR2 (by simp [hk, hkl]; rfl) (by rfl) (.of_eq ?_) ?_)
  all_goals clear hX
  · skip
    simp [pickV, hk, hkl]
  · skip
    simp
end Go.Proofs
namespace Go.Proofs
open Go Go.Ev


theorem cb_spec_l01Src_one : Callable Tryz.prog 83 := ⟨_, Tryz.func83, by kernel_rfl, by kernel_rfl⟩
theorem ct_spec_l01Src_one {s : Src} (hs : okS s) {m : Int} (hm : m < 9223372036854775808) : Ct Tryz.prog 83 [.ptr 0 0 0, .int .i64 m] [oSrc s] (.bool (decide (nV s m = 0))) [oSrc (nS s m)] := by
  refine Ct_bodyS tok Tryz.func83 rfl 9 (by kernel_rfl) (by kernel_rfl) fun X hX => ?_
  refine jq [0, 1] ?_
  refine W_rseqK [4] (jt 2 (k:=(jc [0] (c:=(by apply ct_spec_l01Src_n <;> first | omega | assumption | decide | exact nS_ok (by assumption) _ | exact nS_ok (nS_ok (by assumption) _) _ | ((repeat apply nS_ok); assumption))) (a:=cb_spec_l01Src_n) (k:=jr)))) ?_
  refine W_ret (W_retR2 (by simp; rfl) (by rfl) (.of_eq ?_) ?_)
  all_goals clear hX
  · skip
    simp
  · skip
    simp
end Go.Proofs
namespace Go.Proofs
open Go Go.Ev
attribute [simp] St.swap gSw swp
section
variable {X : Ctx} {ops : Array Oper} {ls : List Oper} {st s s1 s2 s3 : St} {o : Oper} {n0 : Nat} {L : List Nat} {Q : Exit → St → Prop}
theorem jT {id : Nat} {y : Code} (n : Nat) (t : Tm) (ks L : List Nat) (hX : X.n0 = n0) (hH : StepsM Tryz.prog TT n0 ls.toArray L t st s2) (h2 : Runs Tryz.prog X ls.toArray (ls.drop n) s2 s3) (hk : W Tryz.prog X y (s3.keep ks) Q)
    (hB : tmsB .any ls.toArray n t = true := by kernel_rfl) : W Tryz.prog X (.seq (.region id ls.toArray true) y) st Q := W_tmK n t ks L hmo hB tok hX hH h2 hk
theorem jTp (A : List Nat) (r : Tm) (h : runTk TT n0 ops L A s = some s1) (k : StepsM Tryz.prog TT n0 ops L r s1 s2) : StepsM Tryz.prog TT n0 ops L (purs A r) s s2 := .pur h rfl k
theorem jTa (i : Nat) {t r : Tm} {s' : St} (ho : ops[i]? = some o := by rfl) (hL : ∀ id ∈ L, id < s.ob.length := by simp) (p : ∀ X : Ctx, X.n0 = s.ob.length → Runs Tryz.prog X ops [o] ⟨s.tm, hid L s.ob⟩ s') (he : (⟨s'.tm, unh s.ob L s'.ob⟩ : St) = s1 := by (try simp); (try rfl))
    (k : StepsM Tryz.prog TT n0 ops L t s1 s2) (kr : StepsM Tryz.prog TT n0 ops L r s s2) : StepsM Tryz.prog TT n0 ops L (.alt i t r) s s2 := .alt ho hL p he k kr
theorem jTw (a b : Nat) {t : Tm} (he : s.swap a b = s1) (k : StepsM Tryz.prog TT n0 ops L t s1 s2) (hb : n0 ≤ a ∧ n0 ≤ b ∧ a < s.ob.length ∧ b < s.ob.length := by simp) (hl : a ∉ L ∧ b ∉ L := by decide) : StepsM Tryz.prog TT n0 ops L t s s2 := .sw hb hl he k
theorem jFz {l : List Oper} {x r r' : V} {st2 : St} {ob2 : List Ob} {z : Option (V × St)} {z2 : Option (V × List Ob)} (h : opB TT 0 ⟨fzL st.tm, []⟩ o.op = z := by simp; rfl) (hz : z = some (x, st2) := by rfl) (ht : takeV 0 st2.ob x = z2 := by simp; rfl) (hz2 : z2 = some (r, ob2) := by rfl)
    (hl : r.lim 0 = true := by simp) (hr : r.fz = r' := by simp; rfl) (hg : gd ops st o.guard = some true := by simp) (k : Runs Tryz.prog X ops l ⟨setD o.dst r' st.tm, st.ob⟩ s2) : Runs Tryz.prog X ops (o :: l) st s2 := Runs.frz tok (h.trans hz) (ht.trans hz2) hl hr hg k
end
end Go.Proofs
namespace Go.Proofs
open Go Go.Ev


theorem cb_spec_l01Src_word : Callable Tryz.prog 143 := ⟨_, Tryz.func143, by kernel_rfl, by kernel_rfl⟩
theorem ct_spec_l01Src_word {s : Src} (hs : okS s) : Ct Tryz.prog 143 [.ptr 0 0 0] [oSrc s] (.str (wordV s)) [oSrc (wordS s)] := by
  refine Ct_bodyS tok Tryz.func143 rfl 11 (by kernel_rfl) (by kernel_rfl) fun X hX => ?_
  refine jq [0] ?_
  refine W_seq (W_rseqK [0, 4] (jt 1 (k:=(jc [0] (c:=(by apply ct_spec_l01Src_one <;> first | omega | assumption | decide | exact nS_ok (by assumption) _ | exact nS_ok (nS_ok (by assumption) _) _ | ((repeat apply nS_ok); assumption))) (a:=cb_spec_l01Src_one) (k:=jf)))) ?_)
  refine jd (fun h1 => ?_) (fun h1 => ?_)
  · try simp at h1
    refine W_rseqK [2] (jt 2 (k:=(jc [0, 1] (c:=(by apply (ct_spec_l01Src_pick (l := wA)) <;> first | omega | assumption | decide | exact nS_ok (by assumption) _ | exact nS_ok (nS_ok (by assumption) _) _ | ((repeat apply nS_ok); assumption))) (a:=cb_spec_l01Src_pick) (k:=jr)))) ?_
    refine W_ret (W_retR2 (by simp; rfl) (by rfl) (.of_eq ?_) ?_)
    all_goals clear hX
    · skip
      simp_all [wordV]
    · skip
      simp_all [wordS, wA, wB]
  · try simp at h1
    refine W_skip (W_rseqK [2] (jt 2 (k:=(jc [0, 1] (c:=(by apply (ct_spec_l01Src_pick (l := wB)) <;> first | omega | assumption | decide | exact nS_ok (by assumption) _ | exact nS_ok (nS_ok (by assumption) _) _ | ((repeat apply nS_ok); assumption))) (a:=cb_spec_l01Src_pick) (k:=jr)))) ?_)
    refine W_ret (W_retR2 (by simp; rfl) (by rfl) (.of_eq ?_) ?_)
    all_goals clear hX
    · skip
      simp_all [wordV]
    · skip
      simp_all [wordS, wA, wB]
end Go.Proofs
namespace Go.Proofs
open Go Go.Ev


theorem cb_spec_l01Src_l02Type : Callable Tryz.prog 144 := ⟨_, Tryz.func144, by kernel_rfl, by kernel_rfl⟩
theorem ct_spec_l01Src_l02Type {s : Src} (hs : okS s) : Ct Tryz.prog 144 [.ptr 0 0 0] [oSrc s] (.str (ltyV s)) [oSrc (ltyS s)] := by
  refine Ct_bodyS tok Tryz.func144 rfl 11 (by kernel_rfl) (by kernel_rfl) fun X hX => ?_
  refine jq [0] ?_
  refine W_seq (W_rseqK [0, 4] (jt 1 (k:=(jc [0] (c:=(by apply ct_spec_l01Src_one <;> first | omega | assumption | decide | exact nS_ok (by assumption) _ | exact nS_ok (nS_ok (by assumption) _) _ | ((repeat apply nS_ok); assumption))) (a:=cb_spec_l01Src_one) (k:=jf)))) ?_)
  refine jd (fun h1 => ?_) (fun h1 => ?_)
  · try simp at h1
    refine W_rseqK [2] (jt 2 (k:=(jc [0, 1] (c:=(by apply (ct_spec_l01Src_pick (l := [[], [86], [76, 59], [76, 65], [91, 91, 73], [73, 59], [76, 49, 59], [76, 97, 98, 99, 100, 101, 102, 103, 104, 105, 106, 107, 108, 109, 110, 111, 112, 113, 114, 115, 116, 59], [76, 97, 98, 99, 100, 101, 102, 103, 104, 105, 106, 107, 108, 109, 110, 111, 112, 113, 114, 115, 116, 117, 59]])) <;> first | omega | assumption | decide | exact nS_ok (by assumption) _ | exact nS_ok (nS_ok (by assumption) _) _ | ((repeat apply nS_ok); assumption))) (a:=cb_spec_l01Src_pick) (k:=jr)))) ?_
    refine W_ret (W_retR2 (by simp; rfl) (by rfl) (.of_eq ?_) ?_)
    all_goals clear hX
    · skip
      simp_all [ltyV, lyA, lyB]
    · skip
      simp_all [ltyS]
  · try simp at h1
    refine W_skip (W_rseqK [2] (jt 2 (k:=(jc [0, 1] (c:=(by apply (ct_spec_l01Src_pick (l := [[73], [73], [76, 65, 59], [76, 66, 59], [76, 79, 98, 106, 101, 99, 116, 59], [91, 73], [91, 76, 65, 59]])) <;> first | omega | assumption | decide | exact nS_ok (by assumption) _ | exact nS_ok (nS_ok (by assumption) _) _ | ((repeat apply nS_ok); assumption))) (a:=cb_spec_l01Src_pick) (k:=jr)))) ?_)
    refine W_ret (W_retR2 (by simp; rfl) (by rfl) (.of_eq ?_) ?_)
    all_goals clear hX
    · skip
      simp_all [ltyV, lyA, lyB]
    · skip
      simp_all [ltyS]
end Go.Proofs
namespace Go.Proofs
open Go Go.Ev


theorem cb_spec_l03Ops : Callable Tryz.prog 249 := ⟨_, Tryz.func249, by kernel_rfl, by kernel_rfl⟩
theorem ct_spec_l03Ops  : Ct Tryz.prog 249 [] [] (.lst true 1 (opsL.map V.str)) [] := by
  refine Ct_bodyS tok Tryz.func249 rfl 2 (by kernel_rfl) (by kernel_rfl) fun X hX => ?_
  refine jq [] ?_
  refine jq [0] ?_
  refine W_ret (je0 ?_)
  rfl
end Go.Proofs
namespace Go.Proofs
open Go Go.Ev


theorem cb_spec_l01Split : Callable Tryz.prog 250 := ⟨_, Tryz.func250, by kernel_rfl, by kernel_rfl⟩
theorem ct_spec_l01Split {t : Str} {c : UInt8} (ht : t.length ≤ 1048576) : Ct Tryz.prog 250 [.str t, .int .u8 c.toNat] [] (.lst true 1 ((splitL c t).map V.str)) [] := by
  refine Ct_bodyS tok Tryz.func250 rfl 35 (by kernel_rfl) (by kernel_rfl) fun X hX => ?_
  refine jq [0, 1] ?_
  refine jq [0, 1, 5] ?_
  refine jq [0, 1, 5, 6] ?_
  refine W_seq (jq [0, 1, 5, 6, 7] ?_)
  refine W_block (W_loopU (α := List Str × Nat × Nat) [0, 1, 5, 6, 7] (fun a => [(5, .arr 0 0 a.1.length), (6, .int .i64 a.2.1), (7, .int .i64 a.2.2)]) (fun a => [(0, some (1, a.1.map V.str))]) (fun a => a.2.1 ≤ a.2.2 ∧ a.2.2 ≤ t.length ∧ a.1.length ≤ a.2.2 ∧ (∀ x ∈ (t.drop a.2.1).take (a.2.2 - a.2.1), x ≠ c) ∧ a.1 ++ splitL c (t.drop a.2.1) = splitL c t) (fun a => t.length - a.2.2) (([], 0, 0)) (fun a => by simp; rfl) (by simp) ?_ ?_)
  · simp
  rintro ⟨ps, f, i⟩ ⟨hf, hi, hp, hn, hI⟩
  simp only at hf hi hp hn hI
  have w1 : (ps.length + 1) * 16 ≤ 140737488355328 := by omega
  have w2 : ps.length ≤ 1099511627775 := by omega
  refine W_seq (W_rseqK [0, 1, 5, 6, 7, 12] (jh hX (by simp [w1, w2, hf, hi]; rfl)) ?_)
  refine jd (fun h4 => ?_) (fun h4 => ?_)
  · try simp at h4
    have hdi : i - f < (t.drop f).length := by simp; omega
    have hde : (t.drop f)[i - f] = t[i] := by simp [Nat.add_sub_cancel' hf]
    refine W_skip (W_seq (W_block (W_rseqK [0, 1, 5, 6, 7, 19] (jh hX (by simp [w1, w2, hf, hi, h4]; rfl)) ?_)))
    refine jd (fun h6 => ?_) (fun h6 => ?_)
    · try simp at h6
      have hs := splitL_hit hdi hn (by rw [hde]; exact UInt8.toNat_inj.1 h6)
      rw [List.drop_drop, show f + (i - f + 1) = i + 1 from by omega] at hs
      have hI2 : (ps ++ [seg t f i]) ++ splitL c (t.drop (i + 1)) = splitL c t := by rw [← hI, hs, seg, List.drop_take]; simp
      refine W_rseqK [0, 1, 5, 7] (jh hX (by simp [w1, w2, hf, hi, h4]; rfl)) ?_
      refine W_reg (jh hX (by simp; (try (simp (disch := omega) only [wrap_i64]; (try simp))); rfl)) ?_
      refine W_reg (jh hX (by simp; (try (simp (disch := omega) only [wrap_i64]; (try simp))); rfl)) ?_
      refine round_endT (if t[i].toNat = c.toNat then (ps ++ [seg t f i], i + 1, i + 1) else (ps, f, i + 1)) [0, 1, 5, 6, 7] 1 (by simp [hX]) (by simp) (by simp [h4, h6, seg]; try (simp (disch := omega) only [wrap_i64])) ?_ ?_
      · first
        | (rw [if_pos h6]; exact ⟨Nat.le_refl _, h4, by simp; omega, by simp, hI2⟩)
        | (rw [if_neg h6]; exact ⟨by simp; omega, h4, by simp; omega, hn2, hI⟩)
      · first | (rw [if_pos h6]; simp; omega) | (rw [if_neg h6]; simp; omega)
    · try simp at h6
      have h6c : t[i] ≠ c := fun e => h6 (by rw [e])
      have hn2 : ∀ x ∈ (t.drop f).take (i + 1 - f), x ≠ c := by
        rw [show i + 1 - f = (i - f) + 1 from by omega, List.take_succ_eq_append_getElem hdi, hde]
        intro x hx
        rcases List.mem_append.1 hx with hx | hx
        · exact hn x hx
        · simp at hx; rw [hx]; exact h6c
      refine W_skip (W_reg (jh hX (by simp; (try (simp (disch := omega) only [wrap_i64]; (try simp))); rfl)) ?_)
      refine round_endT (if t[i].toNat = c.toNat then (ps ++ [seg t f i], i + 1, i + 1) else (ps, f, i + 1)) [0, 1, 5, 6, 7] 1 (by simp [hX]) (by simp) (by simp [h4, h6, seg]; try (simp (disch := omega) only [wrap_i64])) ?_ ?_
      · first
        | (rw [if_pos h6]; exact ⟨Nat.le_refl _, h4, by simp; omega, by simp, hI2⟩)
        | (rw [if_neg h6]; exact ⟨by simp; omega, h4, by simp; omega, hn2, hI⟩)
      · first | (rw [if_pos h6]; simp; omega) | (rw [if_neg h6]; simp; omega)
  · try simp at h4
    have hfl : f ≤ t.length := by omega
    refine W_exit (W_rseqK [4] (jh hX (by simp [w1, w2, hf, hi, h4, hfl]; rfl)) ?_)
    refine W_ret (W_retR (by simp [w1, w2, hf, hi, h4, hfl]; rfl) ?_ rfl)
    have hil : i = t.length := by omega
    subst hil
    rw [splitL_no (by rw [List.take_of_length_le (by simp)] at hn; exact hn)] at hI
    rw [← hI]
    simp
    exact Wk.refl _
end Go.Proofs
namespace Go.Proofs
open Go Go.Ev


theorem cb_spec_OpForm : Callable Tryz.prog 205 := ⟨_, Tryz.func205, by kernel_rfl, by kernel_rfl⟩
theorem ct_spec_OpForm {op : Int} : Ct Tryz.prog 205 [.int .i64 op] [] (.str (opForm op)) [] := by
  have hol : opsL.length = 45 := rfl
  refine Ct_bodyS tok Tryz.func205 rfl 25 (by kernel_rfl) (by kernel_rfl) fun X hX => ?_
  refine jq [0] ?_
  refine W_rseqK [0, 3] (jF (c:=(by apply ct_spec_l03Ops <;> first | assumption | omega | (simp at *; omega) | simp_all)) (a:=cb_spec_l03Ops) (k:=jr)) ?_
  refine W_seq (W_rseqK [0, 3, 13] (jt 3 (k:=(jm 5 8 [0, 3, 13] (p:=fun b2_3 => by (try simp at b2_3); exact (jh hX (by simp [-atD_lt, -atL_lt]; rfl))) (q:=fun b2_3 => by (try simp at b2_3); exact (jh hX (by simp [-atD_lt, -atL_lt, b2_3]; rfl))) (k:=jf)))) ?_)
  refine jd (fun h2 => ?_) (fun h2 => ?_)
  · try simp at h2
    have hx : opForm op = [33] := by simp only [opForm]; rw [if_pos (by simp [hol] at h2; omega)]
    refine jq [2] ?_
    refine W_ret (je (by simp [h2]; rfl) ?_)
    simp_all [formOf]
  · try simp at h2
    simp only [hol] at h2
    obtain ⟨k, rfl⟩ : ∃ k : Nat, op = (k : Int) := ⟨op.toNat, by omega⟩
    have hk : k < opsL.length := by rw [hol]; omega
    have hf := formOf_ops ⟨k, by omega⟩ (by simp; omega)
    have hl : opsL[k].length ≤ 1048576 := Nat.le_trans (ops_short ⟨k, by omega⟩) (by decide)
    have hof : opForm k = formL.getD (k - 1) [] := by simp only [opForm]; rw [if_neg (by omega)]; congr 1; omega
    have hge : opsL.getD k [] = opsL[k] := by simp [hk]
    simp only [hge] at hf
    rw [hof, ← hf]
    clear hf hof hge
    refine W_skip (W_rseqK [4] (js hX 4 (by simp [h2, hk]; rfl) (jF (c:=(by apply (ct_spec_l01Split (c := 32)) <;> first | assumption | omega | (simp at *; omega) | simp_all)) (a:=cb_spec_l01Split) (k:=jr))) ?_)
    refine W_seq (W_rseqK [4, 21] (jh hX (by simp [h2, hk]; rfl)) ?_)
    refine jd (fun h5 => ?_) (fun h5 => ?_)
    · try simp at h5
      skip
      refine W_rseqK [2] (jh hX (by simp [h2, hk, h5]; rfl)) ?_
      refine W_ret (je (by simp [h2, hk, h5]; rfl) ?_)
      simp_all [formOf]
    · try simp at h5
      refine W_skip (jq [2] ?_)
      refine W_ret (je (by simp [h2, hk]; rfl) ?_)
      simp_all [formOf]
end Go.Proofs
namespace Go.Proofs
open Go Go.Ev


theorem cb_spec_l01Src_edge : Callable Tryz.prog 248 := ⟨_, Tryz.func248, by kernel_rfl, by kernel_rfl⟩
theorem ct_spec_l01Src_edge {s : Src} (hs : okS s) : Ct Tryz.prog 248 [.ptr 0 0 0] [oSrc s] (.int .i64 (atL edgeL (nV s 14).toNat)) [oSrc (nS s 14)] := by
  obtain ⟨a0, b0, c0⟩ := nV_r s (m := 14) (by decide)
  have b0 := b0 (by decide)
  obtain ⟨k, hk⟩ : ∃ k : Nat, nV s 14 = k := ⟨(nV s 14).toNat, by omega⟩
  have hkl : k < 14 := by omega
  have hE := edge_at hkl
  have hE2 := edge_at' hkl
  refine Ct_bodyS tok Tryz.func248 rfl 8 (by kernel_rfl) (by kernel_rfl) fun X hX => ?_
  refine W_rseqK [0] (jh hX (by simp [hk, hkl, hE, hE2]; rfl)) ?_
  refine W_rseqK [2] (js hX 2 (by simp [hk, hkl, hE, hE2]; rfl) (jc [0] (c:=(by apply ct_spec_l01Src_n <;> first | omega | assumption | decide | exact nS_ok (by assumption) _ | exact nS_ok (nS_ok (by assumption) _) _ | ((repeat apply nS_ok); assumption))) (a:=cb_spec_l01Src_n) (k:=(jh hX (by simp [hk, hkl, hE, hE2]; rfl))))) ?_
  refine W_ret (W_retR2 (by simp [hk, hkl, hE, hE2]; rfl) (by rfl) (.of_eq ?_) ?_)
  all_goals clear hX
  · skip
    rw [hk]; rfl
  · skip
    simp
end Go.Proofs
namespace Go.Proofs
open Go Go.Ev

attribute [local irreducible] nS nV wordS wordV ltyS ltyV pickV l06T
theorem cb_spec_l01Src_l03Ins : Callable Tryz.prog 204 := ⟨_, Tryz.func204, by kernel_rfl, by kernel_rfl⟩
theorem ct_spec_l01Src_l03Ins {s : Src} (hs : okS s) : CtE Tryz.prog 204 [.ptr 0 0 0] [oSrc s] (fun r ob' => ∃ (s' : Src) (x : Ins), r = eI x ∧ ob' = [oSrc s'] ∧ okS s' ∧ smI x) := by
  refine Ct_bodyE tok Tryz.func204 rfl 87 (by kernel_rfl) (by kernel_rfl) fun X hX => ?_
  refine jq [0, 2] ?_
  refine W_rseqK [0, 2, 3] (jt 1 (k:=(jc [0] (c:=(by apply ct_spec_l01Src_n <;> first | omega | assumption | decide | exact nS_ok (by assumption) _ | exact nS_ok (nS_ok (by assumption) _) _ | ((repeat apply nS_ok); assumption))) (a:=cb_spec_l01Src_n) (k:=(jh hX (by simp; (try (simp (disch := omega) only [wrap_i64]; (try simp))); rfl)))))) ?_
  refine W_seq (W_rseqK [0, 2, 3, 10] (jt 2 (k:=(jc [] (c:=(by apply ct_spec_OpForm <;> first | omega | assumption | decide | exact nS_ok (by assumption) _ | exact nS_ok (nS_ok (by assumption) _) _ | ((repeat apply nS_ok); assumption))) (a:=cb_spec_OpForm) (k:=jf)))) ?_)
  refine W_cutT (α := Src × Ins) [0, 2, 3] (fun p => []) (fun p => [(0, oSrc p.1), (2, some (5, [eI p.2]))]) (fun p => okS p.1 ∧ smI p.2) (fun p => by simp; rfl) ?_ ?_
  · skip
    refine W_block (jq [0, 2, 3, 10, 11] ?_)
    refine jd (fun h3 => ?_) (fun h3 => ?_)
    · try simp at h3
      refine W_reg (jt 1 (k:=(jc [0] (c:=(by apply ct_spec_l01Src_n <;> first | omega | assumption | decide | exact nS_ok (by assumption) _ | exact nS_ok (nS_ok (by assumption) _) _ | ((repeat apply nS_ok); assumption))) (a:=cb_spec_l01Src_n) (k:=(jh hX (by simp; (try (simp (disch := omega) only [wrap_i64]; (try simp))); rfl)))))) ?_
      refine cut_endT ((⟨_, _, _, _⟩, ⟨_, _, _, _, _⟩)) [0, 2, 3] 3 (by simp [hX]) (by simp) (Eq.trans (by simp; rfl) (by rfl)) ?_
      refine ⟨by (first | assumption | ((repeat (first | apply nS_ok | apply wordS_ok | apply ltyS_ok)) <;> assumption)), ?_⟩
      simp only [smI]
      refine ⟨?_, ?_, ?_⟩ <;> first | first | (simp; done) | assumption | exact pick_le _ (by decide) (by decide) (by decide) | exact Nat.le_trans (word_le _) (by decide) | exact Nat.le_trans (lty_le _) (by decide)
    · try simp at h3
      refine jq [0, 2, 3, 10, 17] ?_
      refine jd (fun h5 => ?_) (fun h5 => ?_)
      · try simp at h5
        refine W_reg (jt 1 (k:=(jc [0] (c:=(by apply ct_spec_l01Src_n <;> first | omega | assumption | decide | exact nS_ok (by assumption) _ | exact nS_ok (nS_ok (by assumption) _) _ | ((repeat apply nS_ok); assumption))) (a:=cb_spec_l01Src_n) (k:=jr)))) ?_
        refine cut_endT ((⟨_, _, _, _⟩, ⟨_, _, _, _, _⟩)) [0, 2, 3] 3 (by simp [hX]) (by simp) (Eq.trans (by simp; rfl) (by rfl)) ?_
        refine ⟨by (first | assumption | ((repeat (first | apply nS_ok | apply wordS_ok | apply ltyS_ok)) <;> assumption)), ?_⟩
        simp only [smI]
        refine ⟨?_, ?_, ?_⟩ <;> first | first | (simp; done) | assumption | exact pick_le _ (by decide) (by decide) (by decide) | exact Nat.le_trans (word_le _) (by decide) | exact Nat.le_trans (lty_le _) (by decide)
      · try simp at h5
        refine jq [0, 2, 3, 10, 22] ?_
        refine jd (fun h7 => ?_) (fun h7 => ?_)
        · try simp at h7
          refine W_reg (jt 1 (k:=(jc [0] (c:=(by apply ct_spec_l01Src_n <;> first | omega | assumption | decide | exact nS_ok (by assumption) _ | exact nS_ok (nS_ok (by assumption) _) _ | ((repeat apply nS_ok); assumption))) (a:=cb_spec_l01Src_n) (k:=jr)))) ?_
          refine cut_endT ((⟨_, _, _, _⟩, ⟨_, _, _, _, _⟩)) [0, 2, 3] 3 (by simp [hX]) (by simp) (Eq.trans (by simp; rfl) (by rfl)) ?_
          refine ⟨by (first | assumption | ((repeat (first | apply nS_ok | apply wordS_ok | apply ltyS_ok)) <;> assumption)), ?_⟩
          simp only [smI]
          refine ⟨?_, ?_, ?_⟩ <;> first | first | (simp; done) | assumption | exact pick_le _ (by decide) (by decide) (by decide) | exact Nat.le_trans (word_le _) (by decide) | exact Nat.le_trans (lty_le _) (by decide)
        · try simp at h7
          refine jq [0, 2, 3, 10, 27] ?_
          refine jd (fun h9 => ?_) (fun h9 => ?_)
          · try simp at h9
            refine W_reg (jt 2 (k:=(jc [0, 3] (c:=(by apply (ct_spec_l01Src_pick (l := [[65], [66], [79, 98, 106, 101, 99, 116]])) <;> first | omega | assumption | decide | exact nS_ok (by assumption) _ | exact nS_ok (nS_ok (by assumption) _) _ | ((repeat apply nS_ok); assumption))) (a:=cb_spec_l01Src_pick) (k:=jr)))) ?_
            refine cut_endT ((⟨_, _, _, _⟩, ⟨_, _, _, _, _⟩)) [0, 2, 3] 3 (by simp [hX]) (by simp) (Eq.trans (by simp; rfl) (by rfl)) ?_
            refine ⟨by (first | assumption | ((repeat (first | apply nS_ok | apply wordS_ok | apply ltyS_ok)) <;> assumption)), ?_⟩
            simp only [smI]
            refine ⟨?_, ?_, ?_⟩ <;> first | first | (simp; done) | assumption | exact pick_le _ (by decide) (by decide) (by decide) | exact Nat.le_trans (word_le _) (by decide) | exact Nat.le_trans (lty_le _) (by decide)
          · try simp at h9
            refine jq [0, 2, 3, 10, 33] ?_
            refine jd (fun h11 => ?_) (fun h11 => ?_)
            · try simp at h11
              refine W_reg (jt 2 (k:=(jc [0, 3] (c:=(by apply (ct_spec_l01Src_pick (l := [[73], [76, 65, 59]])) <;> first | omega | assumption | decide | exact nS_ok (by assumption) _ | exact nS_ok (nS_ok (by assumption) _) _ | ((repeat apply nS_ok); assumption))) (a:=cb_spec_l01Src_pick) (k:=jr)))) ?_
              refine cut_endT ((⟨_, _, _, _⟩, ⟨_, _, _, _, _⟩)) [0, 2, 3] 3 (by simp [hX]) (by simp) (Eq.trans (by simp; rfl) (by rfl)) ?_
              refine ⟨by (first | assumption | ((repeat (first | apply nS_ok | apply wordS_ok | apply ltyS_ok)) <;> assumption)), ?_⟩
              simp only [smI]
              refine ⟨?_, ?_, ?_⟩ <;> first | first | (simp; done) | assumption | exact pick_le _ (by decide) (by decide) (by decide) | exact Nat.le_trans (word_le _) (by decide) | exact Nat.le_trans (lty_le _) (by decide)
            · try simp at h11
              refine jq [0, 2, 3, 10, 39] ?_
              refine jd (fun h13 => ?_) (fun h13 => ?_)
              · try simp at h13
                refine jq [0, 2, 3] ?_
                refine W_rseqK [0, 2, 3] (jt 2 (k:=(jc [0, 3] (c:=(by apply (ct_spec_l01Src_pick (l := [[120], [121]])) <;> first | omega | assumption | decide | exact nS_ok (by assumption) _ | exact nS_ok (nS_ok (by assumption) _) _ | ((repeat apply nS_ok); assumption))) (a:=cb_spec_l01Src_pick) (k:=jr)))) ?_
                refine W_reg jr ?_
                refine cut_endT ((⟨_, _, _, _⟩, ⟨_, _, _, _, _⟩)) [0, 2, 3] 3 (by simp [hX]) (by simp) (Eq.trans (by simp; rfl) (by rfl)) ?_
                refine ⟨by (first | assumption | ((repeat (first | apply nS_ok | apply wordS_ok | apply ltyS_ok)) <;> assumption)), ?_⟩
                simp only [smI]
                refine ⟨?_, ?_, ?_⟩ <;> first | first | (simp; done) | assumption | exact pick_le _ (by decide) (by decide) (by decide) | exact Nat.le_trans (word_le _) (by decide) | exact Nat.le_trans (lty_le _) (by decide)
              · try simp at h13
                refine jq [0, 2, 3, 47] ?_
                refine jd (fun h17 => ?_) (fun h17 => ?_)
                · try simp at h17
                  refine jq [0, 2, 3] ?_
                  refine W_rseqK [0, 2, 3] (jt 2 (k:=(jc [0, 3] (c:=(by apply (ct_spec_l01Src_pick (l := [[102], [60, 105, 110, 105, 116, 62]])) <;> first | omega | assumption | decide | exact nS_ok (by assumption) _ | exact nS_ok (nS_ok (by assumption) _) _ | ((repeat apply nS_ok); assumption))) (a:=cb_spec_l01Src_pick) (k:=jr)))) ?_
                  refine W_reg (jt 2 (k:=(jc [0, 4] (c:=(by apply (ct_spec_l01Src_pick (l := [[40, 41, 86], [40, 73, 41, 73]])) <;> first | omega | assumption | decide | exact nS_ok (by assumption) _ | exact nS_ok (nS_ok (by assumption) _) _ | ((repeat apply nS_ok); assumption))) (a:=cb_spec_l01Src_pick) (k:=jr)))) ?_
                  refine cut_endT ((⟨_, _, _, _⟩, ⟨_, _, _, _, _⟩)) [0, 2, 3] 3 (by simp [hX]) (by simp) (Eq.trans (by simp; rfl) (by rfl)) ?_
                  refine ⟨by (first | assumption | ((repeat (first | apply nS_ok | apply wordS_ok | apply ltyS_ok)) <;> assumption)), ?_⟩
                  simp only [smI]
                  refine ⟨?_, ?_, ?_⟩ <;> first | first | (simp; done) | assumption | exact pick_le _ (by decide) (by decide) (by decide) | exact Nat.le_trans (word_le _) (by decide) | exact Nat.le_trans (lty_le _) (by decide)
                · try simp at h17
                  refine W_skip (cut_endT ((⟨_, _, _, _⟩, ⟨_, _, _, _, _⟩)) [0, 2, 3] 3 (by simp [hX]) (by simp) (Eq.trans (by simp; rfl) (by rfl)) ?_)
                  refine ⟨by (first | assumption | ((repeat (first | apply nS_ok | apply wordS_ok | apply ltyS_ok)) <;> assumption)), ?_⟩
                  simp only [smI]
                  refine ⟨?_, ?_, ?_⟩ <;> first | first | (simp; done) | assumption | exact pick_le _ (by decide) (by decide) (by decide) | exact Nat.le_trans (word_le _) (by decide) | exact Nat.le_trans (lty_le _) (by decide)
  · rintro ⟨s, ⟨xo, xa, xc, xn, xd⟩⟩ ⟨hs, hx⟩
    simp only at hs hx
    refine W_seq (W_rseqK [0, 2, 3, 59] (jt 1 (k:=(jc [0] (c:=(by apply ct_spec_l01Src_one <;> first | omega | assumption | decide | exact nS_ok (by assumption) _ | exact nS_ok (nS_ok (by assumption) _) _ | ((repeat apply nS_ok); assumption))) (a:=cb_spec_l01Src_one) (k:=jf)))) ?_)
    refine W_cutT (α := Src × Ins) [2, 3] (fun p => []) (fun p => [(0, oSrc p.1), (2, some (5, [eI p.2]))]) (fun p => okS p.1 ∧ smI p.2) (fun p => by simp; rfl) ?_ ?_
    · skip
      refine jd (fun h21 => ?_) (fun h21 => ?_)
      · try simp at h21
        refine W_rseqK [0, 2, 3, 61] (jt 1 (k:=(jc [0] (c:=(by apply ct_spec_l01Src_n <;> first | omega | assumption | decide | exact nS_ok (by assumption) _ | exact nS_ok (nS_ok (by assumption) _) _ | ((repeat apply nS_ok); assumption))) (a:=cb_spec_l01Src_n) (k:=jf)))) ?_
        refine W_block (jq [0, 2, 3, 61, 65] ?_)
        refine jd (fun h24 => ?_) (fun h24 => ?_)
        · try simp at h24
          refine W_reg (jt 1 (k:=(jc [0] (c:=(by apply ct_spec_l01Src_n <;> first | omega | assumption | decide | exact nS_ok (by assumption) _ | exact nS_ok (nS_ok (by assumption) _) _ | ((repeat apply nS_ok); assumption))) (a:=cb_spec_l01Src_n) (k:=(jh hX (by simp; (try (simp (disch := omega) only [wrap_i64]; (try simp))); rfl)))))) ?_
          refine cut_endT ((⟨_, _, _, _⟩, ⟨_, _, _, _, _⟩)) [2, 3] 3 (by simp [hX]) (by simp) (Eq.trans (by simp; rfl) (by rfl)) ?_
          refine ⟨by (first | assumption | ((repeat (first | apply nS_ok | apply wordS_ok | apply ltyS_ok)) <;> assumption)), ?_⟩
          simp only [smI] at *
          refine ⟨?_, ?_, ?_⟩ <;> first | exact hx.1 | exact hx.2.1 | exact hx.2.2 | first | (simp; done) | assumption | exact pick_le _ (by decide) (by decide) (by decide) | exact Nat.le_trans (word_le _) (by decide) | exact Nat.le_trans (lty_le _) (by decide)
        · try simp at h24
          refine jq [0, 2, 3, 61, 71] ?_
          refine jd (fun h26 => ?_) (fun h26 => ?_)
          · try simp at h26
            refine W_reg (jt 1 (k:=(jc [0] (c:=(by apply ct_spec_l01Src_edge <;> first | omega | assumption | decide | exact nS_ok (by assumption) _ | exact nS_ok (nS_ok (by assumption) _) _ | ((repeat apply nS_ok); assumption))) (a:=cb_spec_l01Src_edge) (k:=jr)))) ?_
            refine cut_endT ((⟨_, _, _, _⟩, ⟨_, _, _, _, _⟩)) [2, 3] 3 (by simp [hX]) (by simp) (Eq.trans (by simp; rfl) (by rfl)) ?_
            refine ⟨by (first | assumption | ((repeat (first | apply nS_ok | apply wordS_ok | apply ltyS_ok)) <;> assumption)), ?_⟩
            simp only [smI] at *
            refine ⟨?_, ?_, ?_⟩ <;> first | exact hx.1 | exact hx.2.1 | exact hx.2.2 | first | (simp; done) | assumption | exact pick_le _ (by decide) (by decide) (by decide) | exact Nat.le_trans (word_le _) (by decide) | exact Nat.le_trans (lty_le _) (by decide)
          · try simp at h26
            refine jq [0, 2, 3, 61, 76] ?_
            refine jd (fun h28 => ?_) (fun h28 => ?_)
            · try simp at h28
              refine W_reg (jt 1 (k:=(jc [0] (c:=(by apply ct_spec_l01Src_word <;> first | omega | assumption | decide | exact nS_ok (by assumption) _ | exact nS_ok (nS_ok (by assumption) _) _ | ((repeat apply nS_ok); assumption))) (a:=cb_spec_l01Src_word) (k:=jr)))) ?_
              refine cut_endT ((⟨_, _, _, _⟩, ⟨_, _, _, _, _⟩)) [2, 3] 3 (by simp [hX]) (by simp) (Eq.trans (by simp; rfl) (by rfl)) ?_
              refine ⟨by (first | assumption | ((repeat (first | apply nS_ok | apply wordS_ok | apply ltyS_ok)) <;> assumption)), ?_⟩
              simp only [smI] at *
              refine ⟨?_, ?_, ?_⟩ <;> first | exact hx.1 | exact hx.2.1 | exact hx.2.2 | first | (simp; done) | assumption | exact pick_le _ (by decide) (by decide) (by decide) | exact Nat.le_trans (word_le _) (by decide) | exact Nat.le_trans (lty_le _) (by decide)
            · try simp at h28
              refine jq [0, 2, 3, 81] ?_
              refine jd (fun h30 => ?_) (fun h30 => ?_)
              · try simp at h30
                refine W_reg (jt 1 (k:=(jc [0] (c:=(by apply ct_spec_l01Src_word <;> first | omega | assumption | decide | exact nS_ok (by assumption) _ | exact nS_ok (nS_ok (by assumption) _) _ | ((repeat apply nS_ok); assumption))) (a:=cb_spec_l01Src_word) (k:=jr)))) ?_
                refine cut_endT ((⟨_, _, _, _⟩, ⟨_, _, _, _, _⟩)) [2, 3] 3 (by simp [hX]) (by simp) (Eq.trans (by simp; rfl) (by rfl)) ?_
                refine ⟨by (first | assumption | ((repeat (first | apply nS_ok | apply wordS_ok | apply ltyS_ok)) <;> assumption)), ?_⟩
                simp only [smI] at *
                refine ⟨?_, ?_, ?_⟩ <;> first | exact hx.1 | exact hx.2.1 | exact hx.2.2 | first | (simp; done) | assumption | exact pick_le _ (by decide) (by decide) (by decide) | exact Nat.le_trans (word_le _) (by decide) | exact Nat.le_trans (lty_le _) (by decide)
              · try simp at h30
                refine W_reg (jt 1 (k:=(jc [0] (c:=(by apply ct_spec_l01Src_l02Type <;> first | omega | assumption | decide | exact nS_ok (by assumption) _ | exact nS_ok (nS_ok (by assumption) _) _ | ((repeat apply nS_ok); assumption))) (a:=cb_spec_l01Src_l02Type) (k:=jr)))) ?_
                refine cut_endT ((⟨_, _, _, _⟩, ⟨_, _, _, _, _⟩)) [2, 3] 3 (by simp [hX]) (by simp) (Eq.trans (by simp; rfl) (by rfl)) ?_
                refine ⟨by (first | assumption | ((repeat (first | apply nS_ok | apply wordS_ok | apply ltyS_ok)) <;> assumption)), ?_⟩
                simp only [smI] at *
                refine ⟨?_, ?_, ?_⟩ <;> first | exact hx.1 | exact hx.2.1 | exact hx.2.2 | first | (simp; done) | assumption | exact pick_le _ (by decide) (by decide) (by decide) | exact Nat.le_trans (word_le _) (by decide) | exact Nat.le_trans (lty_le _) (by decide)
      · try simp at h21
        refine W_skip (cut_endT ((⟨_, _, _, _⟩, ⟨_, _, _, _, _⟩)) [2, 3] 3 (by simp [hX]) (by simp) (Eq.trans (by simp; rfl) (by rfl)) ?_)
        refine ⟨by (first | assumption | ((repeat (first | apply nS_ok | apply wordS_ok | apply ltyS_ok)) <;> assumption)), ?_⟩
        simp only [smI] at *
        refine ⟨?_, ?_, ?_⟩ <;> first | exact hx.1 | exact hx.2.1 | exact hx.2.2 | first | (simp; done) | assumption | exact pick_le _ (by decide) (by decide) (by decide) | exact Nat.le_trans (word_le _) (by decide) | exact Nat.le_trans (lty_le _) (by decide)
    · rintro ⟨s, ⟨xo, xa, xc, xn, xd⟩⟩ ⟨hs, hx⟩
      simp only at hs hx
      refine jq [2] ?_
      refine W_ret (DoneE.ret (Eq.trans (by simp; rfl) (by rfl)) ?_)
      exact ⟨s, ⟨xo, xa, xc, xn, xd⟩, rfl, rfl, hs, hx⟩
end Go.Proofs
