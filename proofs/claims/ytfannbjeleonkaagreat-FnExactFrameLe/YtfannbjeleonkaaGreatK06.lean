/- Part 7 of what the proofs lean on: what the functions of the program and of the reference compute. Conditions: none. -/
import Derived.Test.YtfannbjeleonkaaGreatK05
set_option linter.all false
set_option linter.unusedVariables false
set_option linter.unusedSimpArgs false
set_option maxHeartbeats 2000000
set_option maxRecDepth 100000
namespace Go.Proofs
open Go Go.Ev

theorem rightI_eq (l : List Cls) : (decide (l.length ≤ 10) && decide ((chkI l).2 = 0)) = rightW l := by
  unfold rightW
  rw [← worldCheck_eq]
  by_cases h : 10 < l.length
  · have hc : chkI l = (10, 1) := by unfold chkI; rw [if_pos h]
    rw [hc, decide_eq_false (by omega), Bool.false_and]
    split <;> rfl
  · rw [if_neg (by omega), decide_eq_true (by omega), Bool.true_and]
theorem right_len {l : List Cls} (h : rightW l = true) : l.length ≤ 10 := by
  rw [← rightI_eq, Bool.and_eq_true, decide_eq_true_eq] at h; exact h.1
theorem right_all {l : List Cls} (h : rightW l = true) : (∀ k, k < l.length → pass1 l k = 0) ∧ (∀ k, k < l.length → pass2 l k = 0) ∧ (∀ k, k < l.length → pass3 l k = 0) ∧ (∀ k, k < l.length → pass4 l k = 0) ∧ ∀ k, k < l.length → pass5 l k = 0 := by
  have hlen := right_len h
  simp only [rightW, worldCheck, if_neg (show ¬ 400 < l.length from by omega), if_neg (show ¬ 10 < l.length from by omega), decide_eq_true_eq] at h
  have bad : ∀ (c : Nat → Int) (n i k : Nat) (v : Int), firstBad c n i = some (k, v) → v ≠ 0 := by
    intro c n
    induction n with
    | zero => intro i k v h; simp [firstBad] at h
    | succ n ih =>
      intro i k v h
      simp only [firstBad] at h
      split at h
      · exact ih _ _ _ h
      · cases h; assumption
  unfold checkAll at h
  cases h1 : firstBad (pass1 l) l.length 0 with
  | some p => rw [h1] at h; exact absurd h (bad _ _ _ p.1 p.2 h1)
  | none =>
    rw [h1] at h
    cases h2 : firstBad (pass2 l) l.length 0 with
    | some p => rw [h2] at h; exact absurd h (bad _ _ _ p.1 p.2 h2)
    | none =>
      rw [h2] at h
      cases h3 : firstBad (pass3 l) l.length 0 with
      | some p => rw [h3] at h; exact absurd h (bad _ _ _ p.1 p.2 h3)
      | none =>
        rw [h3] at h
        cases h4 : firstBad (pass4 l) l.length 0 with
        | some p => rw [h4] at h; exact absurd h (bad _ _ _ p.1 p.2 h4)
        | none =>
          rw [h4] at h
          cases h5 : firstBad (pass5 l) l.length 0 with
          | some p => rw [h5] at h; exact absurd h (bad _ _ _ p.1 p.2 h5)
          | none =>
            exact ⟨fun k hk => firstBad_none h1 k (by omega) (by omega), fun k hk => firstBad_none h2 k (by omega) (by omega), fun k hk => firstBad_none h3 k (by omega) (by omega), fun k hk => firstBad_none h4 k (by omega) (by omega), fun k hk => firstBad_none h5 k (by omega) (by omega)⟩
theorem right_P12 {l : List Cls} (h : rightW l = true) : P12 l := fun k hk => ⟨(right_all h).1 k hk, (right_all h).2.1 k hk⟩
theorem right_cyc {l : List Cls} (h : rightW l = true) : ∀ i, i < l.length → cyc l i = false := fun i hi => by
  have := (right_all h).2.2.2.1 i hi
  simp only [pass4] at this
  cases hc : cyc l i
  · rfl
  · rw [hc] at this; simp at this
theorem superI_eq {l : List Cls} (h : P12 l) (n : Str) : superI l n = superOf l n := by
  unfold superOf
  by_cases hb : 0 ≤ builtIx n
  · obtain ⟨hf, e⟩ := super_bIn (fun k hk => (h k hk).1) hb
    rw [e]
    rcases Int.lt_or_le 1 (builtIx n) with h1 | h1
    · have n1 : n ≠ sObject := fun e => by rw [e, bIx_obj.1] at h1; omega
      have n2 : n ≠ sError := fun e => by rw [e, bIx_obj.2.1] at h1; omega
      rw [if_neg n1, if_neg n2, if_neg (by omega), if_neg (by omega), if_pos h1]
    · rcases bIx_cases hb (by omega) with rfl | rfl
      · rw [if_pos rfl, if_pos bIx_obj.1]
      · rw [if_neg (by decide), if_pos rfl, if_neg (by rw [bIx_obj.2.1]; omega), if_pos bIx_obj.2.1]
  · rw [if_neg (by omega), if_neg (by omega), if_neg (by omega)]
    unfold superI
    by_cases hf : 0 ≤ findFrom n l 0
    · rw [if_pos hf, if_neg (by omega)]
      obtain ⟨i, hi, h1, _, h3, _⟩ := clsOf_found hf
      rw [h3, h1]; simp [atL_lt hi]
    · rw [if_neg hf, if_pos (.inl (by simp [bIn]; omega)), if_pos (by omega)]
theorem known_super {l : List Cls} (h : P12 l) {n : Str} (hk : isKnown l n = true) : superI l n = [] ∨ isKnown l (superI l n) = true := by
  simp only [isKnown, Bool.or_eq_true, decide_eq_true_eq] at hk
  by_cases hb : 0 ≤ builtIx n
  · rw [(super_bIn (fun k hk => (h k hk).1) hb).2]
    split
    · exact .inl rfl
    · split
      · exact .inr (known_bIn (by rw [bIx_obj.1]; omega))
      · exact .inr (known_bIn (by rw [bIx_obj.2.1]; omega))
  · obtain ⟨i, hi, e1, e2, e3⟩ := found_name (l := l) (n := n) (by omega)
    rw [e3]
    rcases (super_cls h hi).2 with ⟨_, e | e⟩ | ⟨j, hj, _, e⟩
    · rw [e]; exact .inr (known_bIn (by rw [bIx_obj.1]; omega))
    · rw [e]; exact .inr (known_bIn (by rw [bIx_obj.2.1]; omega))
    · rw [← e]; exact .inr (known_own hj)
theorem ups_ends {l : List Cls} : ∀ {f g : Nat} {k : Int}, Ends l f k → Ends l g k → ups l f k = ups l g k
  | 0, g, k, hf, _ => by rw [ups_neg hf, ups_neg hf]
  | f + 1, 0, k, _, hg => by rw [ups_neg hg, ups_neg hg]
  | f + 1, g + 1, k, hf, hg => by
    by_cases hk : k < 0
    · rw [ups_neg hk, ups_neg hk]
    · rw [ups_pos (by omega), ups_pos (by omega), ups_ends (hf.resolve_left hk) (hg.resolve_left hk)]
/-- how high a name stands -/
def rk (l : List Cls) (n : Str) : Nat := if bIn n then (if n = sObject then 0 else if n = sError then 1 else 2) else 3 + (ups l (l.length + 1) (findFrom n l 0)).length
theorem rk_lt {l : List Cls} (h : P12 l) (hc : ∀ i, i < l.length → cyc l i = false) {n : Str} (hk : isKnown l n = true) (hs : superI l n ≠ []) : rk l (superI l n) < rk l n := by
  have r0 : rk l sObject = 0 := by unfold rk; rw [if_pos (by simp [bIn, bIx_obj.1]), if_pos rfl]
  have r1 : rk l sError = 1 := by unfold rk; rw [if_pos (by simp [bIn, bIx_obj.2.1]), if_neg (by decide), if_pos rfl]
  by_cases hb : 0 ≤ builtIx n
  · have e := (super_bIn (fun k hk => (h k hk).1) hb).2
    rw [e] at hs ⊢
    have hbn : bIn n = true := by simp [bIn, hb]
    by_cases h1 : n = sObject
    · rw [if_pos h1] at hs; exact absurd rfl hs
    · rw [if_neg h1]
      by_cases h2 : n = sError
      · rw [if_pos h2, h2, r0, r1]; omega
      · rw [if_neg h2, r1]; unfold rk; rw [if_pos hbn, if_neg h1, if_neg h2]; omega
  · have hbn : bIn n = false := by simp [bIn]; omega
    simp only [isKnown, Bool.or_eq_true, decide_eq_true_eq] at hk
    obtain ⟨i, hi, e1, e2, e3⟩ := found_name (l := l) (n := n) (by omega)
    have hrn : rk l n = 3 + (ups l (l.length + 1) (i : Int)).length := by unfold rk; rw [if_neg (by simp [hbn]), e1]
    have hu : ups l (l.length + 1) (i : Int) = i :: ups l l.length (nxt l i) := ups_nat
    rw [hrn, hu, e3]
    have hE := ends_of_noCyc hc hi
    obtain ⟨g, hg, hE2⟩ := Ends_nat hE
    obtain rfl : g = l.length := by omega
    rcases (super_cls h hi).2 with ⟨_, e | e⟩ | ⟨j, hj, e4, e⟩
    · rw [e, r0]; omega
    · rw [e, r1]; simp only [List.length_cons]; omega
    · have hjb := name_not_bIn hj (h j hj).1
      have huq := uniq_of_pass1 hj (h j hj).1
      rw [← e]
      have : rk l l[j].name = 3 + (ups l (l.length + 1) (j : Int)).length := by unfold rk; rw [if_neg (by simp [bIn]; omega), huq]
      rw [this, e4]
      rw [e4] at hE2
      rw [ups_ends (ends_of_noCyc hc hj) hE2]
      simp
theorem chn_rk {l : List Cls} (h : P12 l) (hc : ∀ i, i < l.length → cyc l i = false) : ∀ (k : Nat) (n : Str) (o : List Str), rk l n ≤ k → (∀ x ∈ o, rk l n < rk l x) → chn l o n = o ++ chn l [] n
  | k, n, o, hk, ho => by
    by_cases hn : isKnown l n = true
    · have hout : out o n = false := by
        rw [Bool.eq_false_iff]; intro hc; have := ho n (out_iff.1 hc); omega
      rw [chn_go hn hout, chn_go hn (o := []) rfl]
      by_cases hs : superI l n = []
      · rw [hs, chn_stop (by rw [nil_unknown h]; simp), chn_stop (by rw [nil_unknown h]; simp)]; rfl
      · have hlt := rk_lt h hc hn hs
        cases k with
        | zero => omega
        | succ k =>
          rw [chn_rk h hc k (superI l n) (o ++ [n]) (by omega) (fun x hx => by
              rcases List.mem_append.1 hx with hx | hx
              · have := ho x hx; omega
              · rw [List.mem_singleton.1 hx]; exact hlt),
            chn_rk h hc k (superI l n) ([] ++ [n]) (by omega) (fun x hx => by
              rw [List.mem_singleton.1 hx]; exact hlt)]
          simp
    · rw [chn_stop (fun hc => hn hc.1), chn_stop (fun hc => hn hc.1)]; simp
theorem chain_rec {l : List Cls} (h : rightW l = true) {n : Str} (hn : isKnown l n = true) : chain l n = n :: chain l (superI l n) := by
  have hp := right_P12 h
  have hc := right_cyc h
  unfold chain
  rw [chn_go hn rfl]
  by_cases hs : superI l n = []
  · rw [hs, chn_stop (by rw [nil_unknown hp]; simp), chn_stop (by rw [nil_unknown hp]; simp)]; rfl
  · rw [chn_rk hp hc _ _ ([] ++ [n]) (Nat.le_refl _) (fun x hx => by rw [List.mem_singleton.1 hx]; exact rk_lt hp hc hn hs)]
    rfl
theorem chain_no {l : List Cls} {n : Str} (hn : isKnown l n = false) : chain l n = [] := by
  unfold chain; rw [chn_stop]; rw [hn]; simp
/-- the names up from a, as the reference goes -/
def chS (l : List Cls) (a : Str) : List Str := if isKnown l a = true then chain l a else if a = [] then [] else [a]
theorem chS_known {l : List Cls} {a : Str} (h : isKnown l a = true) : chS l a = chain l a := if_pos h
theorem chS_nil {l : List Cls} (h : rightW l = true) : chS l [] = [] := by unfold chS; rw [if_neg (by rw [nil_unknown (right_P12 h)]; simp), if_pos rfl]
theorem chS_go {l : List Cls} (h : rightW l = true) {a : Str} (ha : a ≠ []) : chS l a = a :: chS l (superOf l a) := by
  rw [← superI_eq (right_P12 h)]
  by_cases hk : isKnown l a = true
  · rw [chS_known hk, chain_rec h hk]
    rcases known_super (right_P12 h) hk with e | e
    · rw [e, chS_nil h, chain_no (nil_unknown (right_P12 h))]
    · rw [chS_known e]
  · have : superI l a = [] := by
      simp only [isKnown, Bool.or_eq_true, decide_eq_true_eq] at hk
      unfold superI; rw [if_neg (fun h => hk (.inr h)), if_pos (.inl (by simp [bIn]; omega))]
    rw [this, chS_nil h]; unfold chS; rw [if_neg hk, if_neg ha]
/-- is a the class b, or does it stand on it? -/
def subS (l : List Cls) (a b : Str) : Bool := out (chS l a) b
theorem subS_nil {l : List Cls} (h : rightW l = true) (b : Str) : subS l [] b = false := by unfold subS; rw [chS_nil h]; rfl
theorem subS_go {l : List Cls} (h : rightW l = true) {a b : Str} (ha : a ≠ []) : subS l a b = (decide (b = a) || subS l (superOf l a) b) := by
  unfold subS; rw [chS_go h ha]; rfl
def subW (l : List Cls) (a b : Str) : Bool := decide (a.length ≤ 20000) && (decide (b.length ≤ 20000) && (rightW l && (isKnown l a && (isKnown l b && subS l a b))))
theorem subW_of (l : List Cls) (a b : Str) : (rightW l && (decide (a.length ≤ 20000) && decide (b.length ≤ 20000)) && (isKnown l b && out (chain l a) b)) = subW l a b := by
  unfold subW subS
  cases hr : rightW l
  · simp
  · by_cases hk : isKnown l a = true
    · rw [chS_known hk, hk]
      cases decide (a.length ≤ 20000) <;> cases decide (b.length ≤ 20000) <;> cases isKnown l b <;> simp
    · rw [chain_no (by simpa using hk), Bool.eq_false_iff.2 hk]
      cases decide (a.length ≤ 20000) <;> cases decide (b.length ≤ 20000) <;> cases isKnown l b <;> simp [out]
theorem superOf_le {l : List Cls} {n : Str} : (superOf l n).length ≤ sizeL l + 6 := by
  unfold superOf
  split
  · simp
  · split
    · simp [sObject]
    · split
      · simp [sError]
      · split
        · simp
        · rename_i h
          have hlt := findFrom_lt (l := l) (n := n) (by omega)
          have := sizeL_at hlt
          rw [atL_lt hlt]; simp only [sizeC] at this; omega
end Go.Proofs
namespace Go.Proofs
open Go Go.Ev
/-- a type of the check -/
structure Typ where
  k : Int
  c : Str
  at' : Int
  deriving DecidableEq, Inhabited
def eT (x : Typ) : V := .agg [.int .i64 x.k, .str x.c, .int .i64 x.at']
def sizeT (x : Typ) : Nat := x.c.length
def bigT (x : Typ) : Prop := x.c.length < 4611686018427387904
@[simp] theorem pureL_eT (l : List Typ) : pureL (l.map eT) = true := pureL_map _ (fun _ => rfl) l
@[simp] theorem fzL_eT (l : List Typ) : fzL (l.map eT) = l.map eT := fzL_mapf _ (fun _ => rfl) l
@[simp] theorem jkL_eT (p : Nat → Bool) (l : List Typ) : jkL p (l.map eT) = l.map eT := jkL_mapf p _ (fun _ => rfl) l
attribute [simp] eT
def knownT (l : List Cls) (t : Typ) : Bool := if t.k = 3 ∨ t.k = 5 then isKnown l t.c && decide (t.at' = 0) else if t.k = 6 then isKnown l t.c && decide (0 ≤ t.at' ∧ t.at' ≤ 59) else decide (0 ≤ t.k ∧ t.k ≤ 7) && (decide (t.c = []) && decide (t.at' = 0))
def typeKnownW (l : List Cls) (t : Typ) : Bool := rightW l && knownT l t
end Go.Proofs
namespace Go.Proofs
open Go Go.Ev
def zT : Typ := ⟨0, [], 0⟩
def objT : Typ := ⟨3, sObject, 0⟩
def comI (l : List Cls) (a b : Str) : Str := ((chain l a).find? fun x => isKnown l x && out (chain l b) x).getD []
def comS (l : List Cls) (a b : Str) : Str := ((chS l a).find? fun x => subS l b x).getD []
def isObj (t : Typ) : Bool := decide (2 ≤ t.k ∧ t.k ≤ 5)
def leI (l : List Cls) (a b : Typ) : Bool :=
  if a = b ∨ b.k = 0 then true else if a.k = 2 then isObj b
  else if (a.k = 3 ∧ b.k = 3) ∨ (a.k = 5 ∧ b.k = 5) then isKnown l b.c && out (chain l a.c) b.c
  else decide (a.k = 4 ∨ a.k = 5) && decide (b = objT)
def lubI (l : List Cls) (a b : Typ) : Typ :=
  if a = b then a else if (!isObj a || !isObj b) = true then zT else if a.k = 2 then b else if b.k = 2 then a
  else if a.k = b.k then ⟨a.k, comI l a.c b.c, 0⟩ else objT
/-- is a below b? -/
def leT (l : List Cls) (a b : Typ) : Bool :=
  if a = b ∨ b.k = 0 then true else if a.k = 2 then decide (b.k = 3 ∨ b.k = 4 ∨ b.k = 5)
  else if (a.k = 3 ∧ b.k = 3) ∨ (a.k = 5 ∧ b.k = 5) then subS l a.c b.c
  else decide (a.k = 4 ∨ a.k = 5) && decide (b.k = 3) && decide (b.c = sObject)
/-- the least above both -/
def lubT (l : List Cls) (a b : Typ) : Typ :=
  if a = b then a else if a.k = 2 ∧ (b.k = 3 ∨ b.k = 4 ∨ b.k = 5) then b else if b.k = 2 ∧ (a.k = 3 ∨ a.k = 4 ∨ a.k = 5) then a
  else if a.k = b.k ∧ (a.k = 3 ∨ a.k = 5) then ⟨a.k, comS l a.c b.c, 0⟩
  else if (a.k = 3 ∨ a.k = 4 ∨ a.k = 5) ∧ (b.k = 3 ∨ b.k = 4 ∨ b.k = 5) then objT else zT
def leW (l : List Cls) (a b : Typ) : Bool := rightW l && knownT l a && (knownT l b && leT l a b)
def lubW (l : List Cls) (a b : Typ) : Typ := if (rightW l && knownT l a && knownT l b) = true then lubT l a b else zT
def comW (l : List Cls) (a b : Str) : Str := if (decide (a.length ≤ 20000) && decide (b.length ≤ 20000) && rightW l && (isKnown l a && isKnown l b)) = true then comS l a b else []

theorem right_of_known {l : List Cls} {t : Typ} (h : typeKnownW l t = true) : rightW l = true := by
  unfold typeKnownW at h; rw [Bool.and_eq_true] at h; exact h.1
theorem chain_known {l : List Cls} {a x : Str} : ∀ (k : Nat) (o : List Str) (n : Str), cMu l o ≤ k → (∀ y ∈ o, isKnown l y = true) → x ∈ chn l o n → isKnown l x = true
  | 0, o, n, hk, ho, hx => by
    rw [chn_stop] at hx
    · exact ho x hx
    · rintro ⟨h1, h2⟩; have := cMu_lt h1 h2; omega
  | k + 1, o, n, hk, ho, hx => by
    by_cases hc : isKnown l n = true ∧ out o n = false
    · rw [chn_go hc.1 hc.2] at hx
      refine chain_known (a := a) k (o ++ [n]) (superI l n) (by have := cMu_lt hc.1 hc.2; omega) (fun y hy => ?_) hx
      rcases List.mem_append.1 hy with hy | hy
      · exact ho y hy
      · rw [List.mem_singleton.1 hy]; exact hc.1
    · rw [chn_stop hc] at hx; exact ho x hx
theorem known_in {l : List Cls} {a x : Str} (h : x ∈ chain l a) : isKnown l x = true := chain_known (a := a) _ [] a (Nat.le_refl _) (fun y hy => by cases hy) h
theorem com_eq {l : List Cls} {a b : Str} (ha : isKnown l a = true) (hb : isKnown l b = true) : comI l a b = comS l a b := by
  unfold comI comS subS
  rw [chS_known ha, chS_known hb]
  congr 1
  have : ∀ (xs : List Str), (∀ x ∈ xs, isKnown l x = true) → xs.find? (fun x => isKnown l x && out (chain l b) x) = xs.find? (fun x => out (chain l b) x) := by
    intro xs
    induction xs with
    | nil => intro _; rfl
    | cons x xs ih => intro h; simp only [List.find?_cons]; rw [h x (by simp), Bool.true_and, ih (fun y hy => h y (by simp [hy]))]
  exact this _ (fun x hx => known_in hx)
theorem known3 {l : List Cls} {t : Typ} (h : knownT l t = true) (hk : t.k = 3 ∨ t.k = 5) : isKnown l t.c = true ∧ t.at' = 0 := by
  unfold knownT at h; rw [if_pos hk] at h; simpa using h
theorem knownP {l : List Cls} {t : Typ} (h : knownT l t = true) (h3 : ¬ (t.k = 3 ∨ t.k = 5)) (h6 : t.k ≠ 6) : t.c = [] ∧ t.at' = 0 ∧ 0 ≤ t.k ∧ t.k ≤ 7 := by
  unfold knownT at h; rw [if_neg h3, if_neg h6] at h; simp at h; exact ⟨h.2.1, h.2.2, h.1.1, h.1.2⟩
theorem typ_ext {a b : Typ} (h1 : a.k = b.k) (h2 : a.c = b.c) (h3 : a.at' = b.at') : a = b := by
  cases a; cases b; simp_all
theorem typ_same {l : List Cls} {a b : Typ} (ha : knownT l a = true) (hb : knownT l b = true) (e : a.k = b.k) (h3 : ¬ (a.k = 3 ∨ a.k = 5)) (h6 : a.k ≠ 6) : a = b := by
  have h1 := knownP ha h3 h6
  have h2 := knownP hb (by rw [← e]; exact h3) (by rw [← e]; exact h6)
  exact typ_ext e (by rw [h1.1, h2.1]) (by rw [h1.2.1, h2.2.1])
theorem le_eq {l : List Cls} {a b : Typ} (ha : knownT l a = true) (hb : knownT l b = true) : leI l a b = leT l a b := by
  unfold leI leT
  by_cases h1 : a = b ∨ b.k = 0
  · rw [if_pos h1, if_pos h1]
  · rw [if_neg h1, if_neg h1]
    by_cases h2 : a.k = 2
    · rw [if_pos h2, if_pos h2]
      have : b.k ≠ 2 := fun e => h1 (.inl (typ_same ha hb (by omega) (by omega) (by omega)))
      unfold isObj
      rw [Bool.eq_iff_iff]; simp; omega
    · rw [if_neg h2, if_neg h2]
      by_cases h3 : (a.k = 3 ∧ b.k = 3) ∨ (a.k = 5 ∧ b.k = 5)
      · rw [if_pos h3, if_pos h3]
        have ka := known3 ha (by omega)
        have kb := known3 hb (by omega)
        unfold subS
        rw [chS_known ka.1, kb.1, Bool.true_and]
      · rw [if_neg h3, if_neg h3, Bool.and_assoc]
        congr 1
        rw [Bool.eq_iff_iff]
        simp only [decide_eq_true_eq, Bool.and_eq_true]
        constructor
        · rintro rfl; exact ⟨rfl, rfl⟩
        · rintro ⟨e1, e2⟩; exact typ_ext e1 e2 (known3 hb (.inl e1)).2
theorem lub_eq {l : List Cls} {a b : Typ} (ha : knownT l a = true) (hb : knownT l b = true) : lubI l a b = lubT l a b := by
  unfold lubI lubT
  by_cases h1 : a = b
  · rw [if_pos h1, if_pos h1]
  · rw [if_neg h1, if_neg h1]
    have hs : a.k = b.k → (a.k = 3 ∨ a.k = 5) ∨ a.k = 6 := fun e => by
      by_cases h3 : a.k = 3 ∨ a.k = 5
      · exact .inl h3
      · exact .inr (Classical.byContradiction fun h6 => h1 (typ_same ha hb e h3 h6))
    simp only [isObj, Bool.or_eq_true, Bool.not_eq_true', decide_eq_false_iff_not]
    repeat' split
    all_goals first
      | rfl
      | omega
      | rw [com_eq (known3 ha (by omega)).1 (known3 hb (by omega)).1]
theorem leW_of (l : List Cls) (a b : Typ) : (rightW l && knownT l a && knownT l b && leI l a b) = leW l a b := by
  unfold leW
  by_cases h : knownT l a = true ∧ knownT l b = true
  · rw [le_eq h.1 h.2, h.1, h.2]; simp
  · cases h1 : knownT l a <;> cases h2 : knownT l b <;> simp_all
theorem find_drop {α : Type} {p : α → Bool} {xs : List α} {i : Nat} (h : i < xs.length) : (xs.drop i).find? p = if p xs[i] = true then some xs[i] else (xs.drop (i + 1)).find? p := by
  rw [List.drop_eq_getElem_cons h, List.find?_cons]; cases p xs[i] <;> rfl
theorem comS_nil {l : List Cls} (h : rightW l = true) (b : Str) : comS l [] b = [] := by unfold comS; rw [chS_nil h]; rfl
theorem comS_go {l : List Cls} (h : rightW l = true) {a b : Str} (ha : a ≠ []) : comS l a b = if subS l b a = true then a else comS l (superOf l a) b := by
  unfold comS; rw [chS_go h ha, List.find?_cons]; cases subS l b a <;> rfl
end Go.Proofs
namespace Go.Proofs
open Go Go.Ev
section
variable {l : List Cls}
theorem super_ne {n : Str} (h : P12 l) (hk : isKnown l n = true) (hn : n ≠ sObject) : superI l n ≠ [] := by
  intro e
  simp only [isKnown, Bool.or_eq_true, decide_eq_true_eq] at hk
  by_cases hb : 0 ≤ builtIx n
  · rw [(super_bIn (fun k hk => (h k hk).1) hb).2, if_neg hn] at e
    split at e <;> cases e
  · obtain ⟨i, hi, _, _, e3⟩ := found_name (l := l) (n := n) (by omega)
    rw [e3] at e
    rcases (super_cls h hi).2 with ⟨_, e2 | e2⟩ | ⟨j, hj, _, e2⟩
    · rw [e] at e2; cases e2
    · rw [e] at e2; cases e2
    · have := known_own (l := l) hj
      rw [e2, e, nil_unknown h] at this; cases this
theorem chain_ind (hw : rightW l = true) {P : Str → Prop} (h0 : P sObject) (h1 : ∀ n, isKnown l n = true → n ≠ sObject → isKnown l (superI l n) = true → P (superI l n) → P n) : ∀ n, isKnown l n = true → P n := by
  have key : ∀ (k : Nat) (n : Str), rk l n ≤ k → isKnown l n = true → P n := by
    intro k
    induction k with
    | zero =>
      intro n hk hn
      by_cases ho : n = sObject
      · rw [ho]; exact h0
      · have := rk_lt (right_P12 hw) (right_cyc hw) hn (super_ne (right_P12 hw) hn ho); omega
    | succ k ih =>
      intro n hk hn
      by_cases ho : n = sObject
      · rw [ho]; exact h0
      · have hs := super_ne (right_P12 hw) hn ho
        have := rk_lt (right_P12 hw) (right_cyc hw) hn hs
        have hks := (known_super (right_P12 hw) hn).resolve_left hs
        exact h1 n hn ho hks (ih _ (by omega) hks)
  exact fun n hn => key _ n (Nat.le_refl _) hn
theorem chain_obj (hw : rightW l = true) : chain l sObject = [sObject] := by
  unfold chain; rw [chn_obj (right_P12 hw) rfl]; rfl
theorem self_in {n : Str} (hw : rightW l = true) (hn : isKnown l n = true) : n ∈ chain l n := by rw [chain_rec hw hn]; simp
theorem obj_in (hw : rightW l = true) : ∀ n, isKnown l n = true → sObject ∈ chain l n :=
  chain_ind hw (by rw [chain_obj hw]; simp) fun n hn _ _ ih => by rw [chain_rec hw hn]; simp [ih]
theorem known_obj : isKnown l sObject = true := known_bIn (by rw [bIx_obj.1]; omega)
theorem in_trans (hw : rightW l = true) {x y : Str} : ∀ n, isKnown l n = true → x ∈ chain l n → y ∈ chain l x → y ∈ chain l n := by
  refine chain_ind hw ?_ ?_
  · intro hx hy
    rw [chain_obj hw] at hx
    rw [List.mem_singleton.1 hx] at hy; exact hy
  · intro n hn _ _ ih hx hy
    rw [chain_rec hw hn] at hx ⊢
    rcases List.mem_cons.1 hx with rfl | hx
    · rw [← chain_rec hw hn]; exact hy
    · exact List.mem_cons_of_mem _ (ih hx hy)
theorem in_rk (hw : rightW l = true) {x : Str} : ∀ n, isKnown l n = true → x ∈ chain l n → x = n ∨ rk l x < rk l n := by
  refine chain_ind hw ?_ ?_
  · intro hx; rw [chain_obj hw] at hx; exact .inl (List.mem_singleton.1 hx)
  · intro n hn ho hs ih hx
    rw [chain_rec hw hn] at hx
    rcases List.mem_cons.1 hx with rfl | hx
    · exact .inl rfl
    · have := rk_lt (right_P12 hw) (right_cyc hw) hn (super_ne (right_P12 hw) hn ho)
      rcases ih hx with rfl | h
      · exact .inr this
      · exact .inr (by omega)
theorem in_antisymm (hw : rightW l = true) {x y : Str} (hx : isKnown l x = true) (hy : isKnown l y = true) (h1 : x ∈ chain l y) (h2 : y ∈ chain l x) : x = y := by
  rcases in_rk hw y hy h1 with e | e
  · exact e
  · rcases in_rk hw x hx h2 with e2 | e2
    · exact e2.symm
    · omega
theorem sub_iff {a b : Str} (ha : isKnown l a = true) : subS l a b = true ↔ b ∈ chain l a := by
  unfold subS; rw [chS_known ha, out_iff]
/-- the first common one -/
theorem com_spec (hw : rightW l = true) {b : Str} (hb : isKnown l b = true) : ∀ a, isKnown l a = true →
    comS l a b ∈ chain l a ∧ comS l a b ∈ chain l b ∧ ∀ c, c ∈ chain l a → c ∈ chain l b → c ∈ chain l (comS l a b) := by
  have hgo : ∀ a, isKnown l a = true → comS l a b = if a ∈ chain l b then a else comS l (superI l a) b := by
    intro a ha
    have hne : a ≠ [] := fun e => by rw [e, nil_unknown (right_P12 hw)] at ha; cases ha
    rw [comS_go hw hne, superI_eq (right_P12 hw)]
    by_cases h : a ∈ chain l b
    · rw [if_pos h, if_pos ((sub_iff hb).2 h)]
    · rw [if_neg h, if_neg (fun e => h ((sub_iff hb).1 e))]
  refine chain_ind hw ?_ ?_
  · rw [hgo _ known_obj, if_pos (obj_in hw b hb)]
    exact ⟨self_in hw known_obj, obj_in hw b hb, fun c hc _ => hc⟩
  · intro n hn ho hs ih
    rw [hgo n hn]
    by_cases h : n ∈ chain l b
    · rw [if_pos h]; exact ⟨self_in hw hn, h, fun c hc _ => hc⟩
    · rw [if_neg h]
      refine ⟨?_, ih.2.1, fun c hc hcb => ?_⟩
      · rw [chain_rec hw hn]; exact List.mem_cons_of_mem _ ih.1
      · rw [chain_rec hw hn] at hc
        rcases List.mem_cons.1 hc with rfl | hc
        · exact absurd hcb h
        · exact ih.2.2 c hc hcb
theorem com_comm (hw : rightW l = true) {a b : Str} (ha : isKnown l a = true) (hb : isKnown l b = true) : comS l a b = comS l b a := by
  obtain ⟨a1, a2, a3⟩ := com_spec hw hb a ha
  obtain ⟨b1, b2, b3⟩ := com_spec hw ha b hb
  exact in_antisymm hw (known_in a1) (known_in b1) (b3 _ a2 a1) (a3 _ b2 b1)
theorem known_of3 {t : Typ} (hk : t.k = 3 ∨ t.k = 5) (h1 : isKnown l t.c = true) (h2 : t.at' = 0) : knownT l t = true := by
  unfold knownT; rw [if_pos hk]; simp [h1, h2]
theorem known_objT : knownT l objT = true := known_of3 (.inl rfl) known_obj rfl
theorem le_refl' (a : Typ) : leT l a a = true := by unfold leT; rw [if_pos (.inl rfl)]
/-- what it says that a is below b -/
theorem le_iff {a b : Typ} (ha : knownT l a = true) (_hb : knownT l b = true) : leT l a b = true ↔ a = b ∨ b.k = 0 ∨ (a.k = 2 ∧ (b.k = 3 ∨ b.k = 4 ∨ b.k = 5)) ∨ (((a.k = 3 ∧ b.k = 3) ∨ (a.k = 5 ∧ b.k = 5)) ∧ b.c ∈ chain l a.c) ∨
    ((a.k = 4 ∨ a.k = 5) ∧ b.k = 3 ∧ b.c = sObject) := by
  unfold leT
  by_cases h1 : a = b ∨ b.k = 0
  · rw [if_pos h1]; rcases h1 with h1 | h1 <;> simp [h1]
  · rw [if_neg h1]
    by_cases h2 : a.k = 2
    · rw [if_pos h2, decide_eq_true_eq]
      constructor
      · intro h; exact .inr (.inr (.inl ⟨h2, h⟩))
      · rintro (h | h | ⟨_, h⟩ | ⟨h, _⟩ | ⟨h, _⟩)
        · exact absurd (.inl h) h1
        · exact absurd (.inr h) h1
        · exact h
        · omega
        · omega
    · rw [if_neg h2]
      by_cases h3 : (a.k = 3 ∧ b.k = 3) ∨ (a.k = 5 ∧ b.k = 5)
      · rw [if_pos h3, sub_iff (known3 ha (by omega)).1]
        constructor
        · intro h; exact .inr (.inr (.inr (.inl ⟨h3, h⟩)))
        · rintro (h | h | ⟨h, _⟩ | ⟨_, h⟩ | ⟨h, h'⟩)
          · exact absurd (.inl h) h1
          · exact absurd (.inr h) h1
          · omega
          · exact h
          · omega
      · rw [if_neg h3]
        simp only [Bool.and_eq_true, decide_eq_true_eq, and_assoc]
        constructor
        · intro h; exact .inr (.inr (.inr (.inr h)))
        · rintro (h | h | ⟨h, _⟩ | ⟨h, _⟩ | h)
          · exact absurd (.inl h) h1
          · exact absurd (.inr h) h1
          · omega
          · exact absurd h h3
          · exact h
theorem lub_known (hw : rightW l = true) {a b : Typ} (ha : knownT l a = true) (hb : knownT l b = true) : knownT l (lubT l a b) = true := by
  unfold lubT
  repeat' split
  · exact ha
  · exact hb
  · exact ha
  · rename_i h
    exact known_of3 (t := ⟨a.k, comS l a.c b.c, 0⟩) h.2 (known_in (com_spec hw (known3 hb (by omega)).1 _ (known3 ha h.2).1).1) rfl
  · exact known_objT
  · rfl
theorem lub_up (hw : rightW l = true) {a b : Typ} (ha : knownT l a = true) (hb : knownT l b = true) : leT l a (lubT l a b) = true ∧ leT l b (lubT l a b) = true := by
  rw [le_iff ha (lub_known hw ha hb), le_iff hb (lub_known hw ha hb)]
  unfold lubT
  repeat' split
  · rename_i h; exact ⟨.inl rfl, .inl h.symm⟩
  · rename_i h; exact ⟨.inr (.inr (.inl h)), .inl rfl⟩
  · rename_i h; exact ⟨.inl rfl, .inr (.inr (.inl h))⟩
  · rename_i h
    have := com_spec hw (known3 hb (by omega)).1 _ (known3 ha h.2).1
    exact ⟨.inr (.inr (.inr (.inl ⟨by simp only; omega, this.1⟩))), .inr (.inr (.inr (.inl ⟨by simp only; omega, this.2.1⟩)))⟩
  · rename_i h1 h2 h3 h4 h
    have key : ∀ {t : Typ}, knownT l t = true → (t.k = 3 ∨ t.k = 4 ∨ t.k = 5) → t = objT ∨ objT.k = 0 ∨ (t.k = 2 ∧ (objT.k = 3 ∨ objT.k = 4 ∨ objT.k = 5)) ∨ (((t.k = 3 ∧ objT.k = 3) ∨ (t.k = 5 ∧ objT.k = 5)) ∧ objT.c ∈ chain l t.c) ∨ ((t.k = 4 ∨ t.k = 5) ∧ objT.k = 3 ∧ objT.c = sObject) := by
      intro t ht hk
      by_cases h : t.k = 3
      · exact .inr (.inr (.inr (.inl ⟨.inl ⟨h, rfl⟩, obj_in hw _ (known3 ht (.inl h)).1⟩)))
      · exact .inr (.inr (.inr (.inr ⟨by omega, rfl, rfl⟩)))
    exact ⟨key ha h.1, key hb h.2⟩
  · exact ⟨.inr (.inl rfl), .inr (.inl rfl)⟩
set_option maxHeartbeats 4000000 in
theorem lub_least (hw : rightW l = true) {a b c : Typ} (ha : knownT l a = true) (hb : knownT l b = true) (hc : knownT l c = true) (h1 : leT l a c = true) (h2 : leT l b c = true) : leT l (lubT l a b) c = true := by
  have hk := lub_known hw ha hb
  have h1' := h1
  have h2' := h2
  rw [le_iff ha hc] at h1
  rw [le_iff hb hc] at h2
  by_cases hc0 : c.k = 0
  · rw [le_iff hk hc]; exact .inr (.inl hc0)
  revert hk
  unfold lubT
  split
  · intro _; exact h1'
  · rename_i hab
    split
    · intro _; exact h2'
    · rename_i hn1
      split
      · intro _; exact h1'
      · rename_i hn2
        split
        · rename_i h
          intro hk
          rw [le_iff hk hc]
          have ka := known3 ha h.2
          have kb := known3 hb (by omega)
          have hsp := com_spec hw kb.1 _ ka.1
          rcases h1 with e | h1 | ⟨h1, _⟩ | ⟨h1, h1m⟩ | ⟨h1, h1c⟩
          · -- c = a: then b is below a
            subst e
            rcases h2 with e | h2 | ⟨h2, _⟩ | ⟨h2, h2m⟩ | ⟨h2, h2c⟩
            · exact absurd e.symm hab
            · omega
            · omega
            · exact .inr (.inr (.inr (.inl ⟨by simp only; omega, hsp.2.2 _ (self_in hw ka.1) h2m⟩)))
            · exact absurd h2c.1 (by omega)
          · omega
          · omega
          · rcases h2 with e | h2 | ⟨h2, _⟩ | ⟨h2, h2m⟩ | ⟨h2, h2c⟩
            · subst e
              exact .inr (.inr (.inr (.inl ⟨by simp only; omega, hsp.2.2 _ h1m (self_in hw kb.1)⟩)))
            · omega
            · omega
            · exact .inr (.inr (.inr (.inl ⟨by simp only; omega, hsp.2.2 _ h1m h2m⟩)))
            · omega
          · have : a.k = 5 := by omega
            exact .inr (.inr (.inr (.inr ⟨by simp only; omega, h1c⟩)))
        · rename_i hn3
          split
          · rename_i h
            intro hk
            rw [le_iff hk hc]
            have hO : c.k = 3 → c.c = sObject → objT = c := fun e1 e2 => typ_ext (by rw [e1]; rfl) (by rw [e2]; rfl) (by rw [(known3 hc (.inl e1)).2]; rfl)
            have hsame := fun e (h6 : ¬ (a.k = 3 ∨ a.k = 5)) => hab (typ_same ha hb e h6 (by omega))
            rcases h1 with e | h1 | ⟨h1, _⟩ | ⟨h1, h1m⟩ | ⟨h1, h1c⟩
            · subst e
              rcases h2 with e | h2 | ⟨h2, _⟩ | ⟨h2, h2m⟩ | ⟨h2, h2c⟩
              · exact absurd e.symm hab
              · omega
              · omega
              · omega
              · exact .inl (hO h2c.1 h2c.2)
            · omega
            · omega
            · rcases h2 with e | h2 | ⟨h2, _⟩ | ⟨h2, h2m⟩ | ⟨h2, h2c⟩
              · subst e; omega
              · omega
              · omega
              · omega
              · exact .inl (hO h2c.1 h2c.2)
            · exact .inl (hO h1c.1 h1c.2)
          · rename_i hn4
            intro hk
            rw [le_iff hk hc]
            rcases h1 with e | h1 | ⟨h1, h1b⟩ | ⟨h1, h1m⟩ | ⟨h1, h1c⟩
            · subst e
              rcases h2 with e | h2 | ⟨h2, _⟩ | ⟨h2, h2m⟩ | ⟨h2, h2c⟩
              · exact absurd e.symm hab
              · omega
              · omega
              · omega
              · omega
            · omega
            · rcases h2 with e | h2 | ⟨h2, h2b⟩ | ⟨h2, h2m⟩ | ⟨h2, h2c⟩
              · subst e; omega
              · omega
              · exact absurd (typ_same ha hb (by omega) (by omega) (by omega)) hab
              · omega
              · omega
            · rcases h2 with e | h2 | ⟨h2, h2b⟩ | ⟨h2, h2m⟩ | ⟨h2, h2c⟩
              · subst e; omega
              · omega
              · omega
              · omega
              · omega
            · rcases h2 with e | h2 | ⟨h2, h2b⟩ | ⟨h2, h2m⟩ | ⟨h2, h2c⟩
              · subst e; omega
              · omega
              · omega
              · omega
              · omega
set_option maxHeartbeats 4000000 in
theorem lub_comm (hw : rightW l = true) {a b : Typ} (ha : knownT l a = true) (hb : knownT l b = true) : lubT l a b = lubT l b a := by
  unfold lubT
  by_cases h1 : a = b
  · rw [if_pos h1, if_pos h1.symm, h1]
  · rw [if_neg h1, if_neg (show ¬ b = a from fun e => h1 e.symm)]
    repeat' split
    all_goals first
      | rfl
      | (exfalso; omega)
      | (exact absurd (typ_same ha hb (by omega) (by omega) (by omega)) h1)
      | (rename_i h _; rw [com_comm hw (known3 ha (by omega)).1 (known3 hb (by omega)).1]; congr 1; omega)
      | (rename_i h; rw [com_comm hw (known3 ha (by omega)).1 (known3 hb (by omega)).1]; congr 1; omega)
end
end Go.Proofs
namespace Go.Proofs
open Go Go.Ev
structure Fnd where
  c : Str
  p : Int
  e : Int
  deriving DecidableEq, Inhabited
def eFd (x : Fnd) : V := .agg [.str x.c, .int .i64 x.p, .int .i64 x.e]
attribute [simp] eFd
def zFd : Fnd := ⟨[], 0, 0⟩
def noFd : Fnd := ⟨[], 0, 8⟩
def szFd : Fnd := ⟨[], 0, 2⟩
def descV : Str := [40, 41, 86]
/-- a method of which the name and the desc alone stand there -/
def bareM (n d : Str) : Mth := ⟨n, d, false, false, false, 0, 0, [], []⟩
theorem wk_bareM (n d : Str) : Wk (.agg [.str n, .str d, .bool false, .bool false, .bool false, .int .i64 0, .int .i64 0, .raw (.slice none 0 0), .raw (.slice none 0 0)]) (eM (bareM n d)) :=
  Wk.agg (.cons (Wk.refl _) (.cons (Wk.refl _) (.cons (Wk.refl _) (.cons (Wk.refl _) (.cons (Wk.refl _) (.cons (Wk.refl _) (.cons (Wk.refl _) (.cons (Wk.nilSlice _ _) (.cons (Wk.nilSlice _ _) .nil)))))))))
/-- the method in the first of these classes that has it -/
def fmL (l : List Cls) (n d : Str) : List Str → Fnd × Mth
  | [] => (noFd, zM)
  | x :: xs => if 0 ≤ mthFrom n d (clsOf l x).methods 0 then (⟨x, mthFrom n d (clsOf l x).methods 0, 0⟩, atL (clsOf l x).methods (mthFrom n d (clsOf l x).methods 0).toNat)
    else if n = init then (if bIn x = true ∧ d = descV then (⟨x, -1, 0⟩, bareM init d) else (noFd, zM)) else fmL l n d xs
def fmW (l : List Cls) (c n d : Str) : Fnd :=
  if 400 < l.length ∨ 20000 < c.length ∨ 20000 < n.length ∨ 20000 < d.length then szFd else if rightW l = true then (fmL l n d (chain l c)).1 else zFd
/-- .. as the reference goes: by the place of the class -/
def fmU (l : List Cls) (n d : Str) (k : Int) : Fnd := if k < 0 then noFd else (fmL l n d (chain l (nmAt l k))).1
theorem mthFrom_nil {n d : Str} : mthFrom n d [] 0 = -1 := rfl
theorem cls_bIn {l : List Cls} (h : P12 l) {x : Str} (hb : 0 ≤ builtIx x) : clsOf l x = zC := clsOf_none (by have := (super_bIn (fun k hk => (h k hk).1) hb).1; omega)
theorem bIn_super {l : List Cls} (h : P12 l) {x : Str} (hb : 0 ≤ builtIx x) : superI l x = [] ∨ 0 ≤ builtIx (superI l x) := by
  rw [(super_bIn (fun k hk => (h k hk).1) hb).2]
  split
  · exact .inl rfl
  · split
    · exact .inr (by rw [bIx_obj.1]; omega)
    · exact .inr (by rw [bIx_obj.2.1]; omega)
theorem fm_bIn {l : List Cls} (hw : rightW l = true) {n d : Str} (hn : n ≠ init) : ∀ x, isKnown l x = true → 0 ≤ builtIx x → fmL l n d (chain l x) = (noFd, zM) := by
  have one : ∀ x (xs : List Str), 0 ≤ builtIx x → fmL l n d (x :: xs) = fmL l n d xs := fun x xs hb => by
    simp only [fmL]
    rw [cls_bIn (right_P12 hw) hb, if_neg (by show ¬ 0 ≤ mthFrom n d [] 0; rw [mthFrom_nil]; omega), if_neg hn]
  refine chain_ind hw ?_ ?_
  · intro hb; rw [chain_obj hw, one _ _ hb]; rfl
  · intro x hx hxo _ ih hb
    rw [chain_rec hw hx, one _ _ hb]
    rcases bIn_super (right_P12 hw) hb with e | e
    · exact absurd e (super_ne (right_P12 hw) hx hxo)
    · exact ih e
theorem nm_known {l : List Cls} {k : Int} (h0 : 0 ≤ k) (h1 : k < l.length) : isKnown l (nmAt l k) = true := known_at h0 h1
theorem fm_start {l : List Cls} (hw : rightW l = true) {c n d : Str} (h : ¬ (0 ≤ builtIx c ∧ n = init ∧ d = descV)) : fmU l n d (findFrom c l 0) = (fmL l n d (chain l c)).1 := by
  unfold fmU
  by_cases hf : findFrom c l 0 < 0
  · rw [if_pos hf]
    by_cases hb : 0 ≤ builtIx c
    · have hk := known_bIn (l := l) hb
      by_cases hn : n = init
      · rw [chain_rec hw hk]
        simp only [fmL]
        rw [cls_bIn (right_P12 hw) hb, if_neg (by show ¬ 0 ≤ mthFrom n d [] 0; rw [mthFrom_nil]; omega), if_pos hn, if_neg (fun e => h ⟨hb, hn, e.2⟩)]
      · rw [fm_bIn hw hn c hk hb]
    · rw [chain_no (by simp [isKnown]; omega)]; rfl
  · rw [if_neg hf]
    obtain ⟨i, hi, e1, e2, _⟩ := found_name (l := l) (n := c) (by omega)
    rw [e1, nmAt_nat hi, e2]
theorem fm_built {l : List Cls} (hw : rightW l = true) {c n d : Str} (hb : 0 ≤ builtIx c) (hn : n = init) (hd : d = descV) : (fmL l n d (chain l c)).1 = ⟨c, -1, 0⟩ := by
  rw [chain_rec hw (known_bIn hb)]
  simp only [fmL]
  rw [cls_bIn (right_P12 hw) hb, if_neg (by show ¬ 0 ≤ mthFrom n d [] 0; rw [mthFrom_nil]; omega), if_pos hn, if_pos ⟨by simp [bIn, hb], hd⟩]
theorem fmU_neg {l : List Cls} {n d : Str} {k : Int} (h : k < 0) : fmU l n d k = noFd := if_pos h
theorem fmU_go {l : List Cls} (hw : rightW l = true) {n d : Str} {k : Nat} (hk : k < l.length) :
    fmU l n d k = if 0 ≤ mthFrom n d l[k].methods 0 then ⟨l[k].name, mthFrom n d l[k].methods 0, 0⟩ else if n = init then noFd else fmU l n d (nxt l k) := by
  have hp := right_P12 hw
  have hkn := nm_known (l := l) (k := (k : Int)) (by omega) (by omega)
  unfold fmU
  rw [if_neg (by omega), chain_rec hw hkn]
  simp only [fmL]
  rw [clsOf_at hp hk, nmAt_nat hk]
  by_cases h1 : 0 ≤ mthFrom n d l[k].methods 0
  · rw [if_pos h1, if_pos h1]
  · rw [if_neg h1, if_neg h1]
    by_cases h2 : n = init
    · rw [if_pos h2, if_pos h2, if_neg]
      rintro ⟨e, _⟩
      have := name_not_bIn hk (hp k hk).1
      simp [bIn] at e; omega
    · rw [if_neg h2, if_neg h2]
      by_cases h3 : nxt l k < 0
      · rw [if_pos h3]
        obtain ⟨e1, e2⟩ := super_cls hp hk
        rw [e1]
        rcases e2 with ⟨_, e | e⟩ | ⟨j, hj, e4, _⟩
        · rw [e, fm_bIn hw h2 _ known_obj (by rw [bIx_obj.1]; omega)]
        · rw [e, fm_bIn hw h2 _ (known_bIn (by rw [bIx_obj.2.1]; omega)) (by rw [bIx_obj.2.1]; omega)]
        · omega
      · rw [if_neg h3]
        have := step_up hp (k := (k : Int)) (by omega) (by omega) (by omega)
        rw [nmAt_nat hk] at this
        rw [this]
/-- how far the way up is, by the place of the class -/
def rkU (l : List Cls) (k : Int) : Nat := if k < 0 then 0 else rk l (nmAt l k) + 1
theorem rkU_lt {l : List Cls} (hw : rightW l = true) {k : Nat} (hk : k < l.length) : rkU l (nxt l k) < rkU l k := by
  unfold rkU
  rw [if_neg (show ¬ (k : Int) < 0 from by omega)]
  by_cases h3 : nxt l k < 0
  · rw [if_pos h3]; omega
  · rw [if_neg h3]
    have hkn := nm_known (l := l) (k := (k : Int)) (by omega) (by omega)
    have := step_up (right_P12 hw) (k := (k : Int)) (by omega) (by omega) (by omega)
    have h2 := rk_lt (right_P12 hw) (right_cyc hw) hkn (by
      rw [this]; intro e
      have h4 := nm_known (l := l) (k := nxt l k) (by omega) nxt_ge.2
      rw [e, nil_unknown (right_P12 hw)] at h4; cases h4)
    rw [this] at h2; omega
theorem comW_of {l : List Cls} (hw : rightW l = true) {a b : Str} (ha : a.length ≤ 20000) (hb : b.length ≤ 20000) : comI l a b = comW l a b := by
  unfold comW
  rw [decide_eq_true ha, decide_eq_true hb, hw]
  by_cases hk : isKnown l a = true
  · by_cases hk2 : isKnown l b = true
    · rw [hk, hk2, if_pos (by rfl), com_eq hk hk2]
    · rw [if_neg (by simp [hk2])]
      unfold comI
      rw [chain_no (n := b) (by simpa using hk2)]
      have : (chain l a).find? (fun x => isKnown l x && out [] x) = none := by simp [out]
      rw [this]; rfl
  · rw [if_neg (by simp [hk])]; unfold comI; rw [chain_no (n := a) (by simpa using hk)]; rfl
end Go.Proofs
namespace Go.Proofs
open Go Go.Ev


theorem cb_laws_szField : Callable Tryz.prog 160 := ⟨_, Tryz.func160, by kernel_rfl, by kernel_rfl⟩
theorem ct_laws_szField {x : Fld} {z : Int} (h : bigF x) (h0 : 0 ≤ z) (h1 : z ≤ 1099511627776) : Ct Tryz.prog 160 [eF x, .int .i64 z] [] (.int .i64 (sub z (sizeF x))) [] := by
  simp only [bigF] at h
  obtain ⟨g0, g1⟩ := h
  refine Ct_bodyS tok Tryz.func160 rfl 20 (by kernel_rfl) (by kernel_rfl) fun X hX => ?_
  refine jq [1, 2] ?_
  refine W_rseqK [1, 2] (jh hX (by simp; (try (simp (disch := omega) only [wrap_i64]; (try simp))); rfl)) ?_
  refine W_seq (jq [1, 2, 11] ?_)
  refine jd (fun h2 => ?_) (fun h2 => ?_)
  · try simp at h2
    refine jq [4] ?_
    refine W_ret (je (by simp [h2]; rfl) ?_)
    simp [sub, sizeF] at *; omega
  · try simp at h2
    refine W_skip (W_rseqK [1] (jh hX (by simp [h2]; (try (simp (disch := omega) only [wrap_i64]; (try simp [h2]))); rfl)) ?_)
    refine W_seq (jq [1, 18] ?_)
    refine jd (fun h5 => ?_) (fun h5 => ?_)
    · try simp at h5
      refine jq [4] ?_
      refine W_ret (je (by simp [h2, h5]; rfl) ?_)
      simp [sub, sizeF] at *; omega
    · try simp at h5
      refine W_skip (jq [4] ?_)
      refine W_ret (je (by simp [h2, h5]; rfl) ?_)
      simp [sub, sizeF] at *; omega
end Go.Proofs
namespace Go.Proofs
open Go Go.Ev


theorem cb_laws_szFieldS : Callable Tryz.prog 108 := ⟨_, Tryz.func108, by kernel_rfl, by kernel_rfl⟩
theorem ct_laws_szFieldS {l : List Fld} {z : Int} (h : l.length < 4611686018427387904) (hb : ∀ y ∈ l, bigF y) (h0 : 0 ≤ z) (h1 : z ≤ 1099511627776) : Ct Tryz.prog 108 [.lst false 3 (l.map eF), .int .i64 z] [] (.int .i64 (sub z (l.length + (l.map sizeF).sum))) [] := by
  refine Ct_bodyS tok Tryz.func108 rfl 27 (by kernel_rfl) (by kernel_rfl) fun X hX => ?_
  refine jq [0, 1] ?_
  refine W_rseqK [0, 1] (jh hX (by simp; (try (simp (disch := omega) only [wrap_i64]; (try simp))); rfl)) ?_
  refine W_seq (jq [0, 1, 11] ?_)
  refine jd (fun h2 => ?_) (fun h2 => ?_)
  · try simp at h2
    refine jq [4] ?_
    refine W_ret (je (by simp [h2]; rfl) ?_)
    grind [sub]
  · try simp at h2
    refine W_skip (W_seq (jq [0, 1, 5] ?_))
    refine W_block (W_loopU (α := Nat × Int) [0, 1, 5] (fun p => [(1, .int .i64 p.2), (5, .int .i64 p.1)]) (fun p => []) (fun p => p.1 ≤ l.length ∧ 0 ≤ p.2 ∧ p.2 ≤ 1099511627776 ∧ sub p.2 ((l.drop p.1).map sizeF).sum = sub z (l.length + (l.map sizeF).sum)) (fun p => l.length - p.1) ((0, z - l.length)) (fun p => by simp; rfl) (by simp) ?_ ?_)
    · exact ⟨by simp, by simp; omega, by simp; omega, by simp [sub]; grind⟩
    rintro ⟨i, y⟩ ⟨hi, hy0, hy1, hI⟩
    simp only at hi hy0 hy1 hI
    refine W_seq (W_rseqK [0, 1, 5, 15] (jh hX (by simp [h2]; rfl)) ?_)
    refine jd (fun h5 => ?_) (fun h5 => ?_)
    · try simp at h5
      rw [List.drop_eq_getElem_cons h5] at hI
      simp only [List.map_cons, List.sum_cons] at hI
      refine W_skip (W_seq (W_block (W_rseqK [0, 1, 5] (js hX 5 (by simp [h2, h5]; rfl) (jc [] (c:=(by apply ct_laws_szField <;> first | assumption | omega | exact hb _ (List.getElem_mem _))) (a:=cb_laws_szField) (k:=jr))) ?_)))
      refine jq [0, 1, 5, 25] ?_
      refine jd (fun h8 => ?_) (fun h8 => ?_)
      · try simp at h8
        refine jq [4] ?_
        refine W_ret (je (by simp [h2, h5, h8]; rfl) ?_)
        grind [sub]
      · try simp at h8
        refine W_skip (W_reg (jh hX (by simp; (try (simp (disch := omega) only [wrap_i64]; (try simp))); rfl)) ?_)
        refine round_end ((i + 1, sub y (sizeF l[i]))) [0, 1, 5] (by simp [h2, h5, h8]; try (simp (disch := omega) only [wrap_i64])) ?_ ?_
        · exact ⟨by simp; omega, by simp; grind [sub], by simp; grind [sub], by grind [sub]⟩
        · simp; omega
    · try simp at h5
      refine W_exit (jq [4] ?_)
      refine W_ret (je (by simp [h2, h5]; rfl) ?_)
      grind [sub]
end Go.Proofs
namespace Go.Proofs
open Go Go.Ev


theorem cb_laws_szIns : Callable Tryz.prog 236 := ⟨_, Tryz.func236, by kernel_rfl, by kernel_rfl⟩
theorem ct_laws_szIns {x : Ins} {z : Int} (h : bigI x) (h0 : 0 ≤ z) (h1 : z ≤ 1099511627776) : Ct Tryz.prog 236 [eI x, .int .i64 z] [] (.int .i64 (sub z (sizeI x))) [] := by
  simp only [bigI] at h
  obtain ⟨g0, g1, g2⟩ := h
  refine Ct_bodyS tok Tryz.func236 rfl 27 (by kernel_rfl) (by kernel_rfl) fun X hX => ?_
  refine jq [1, 2] ?_
  refine W_rseqK [1, 2] (jh hX (by simp; (try (simp (disch := omega) only [wrap_i64]; (try simp))); rfl)) ?_
  refine W_seq (jq [1, 2, 11] ?_)
  refine jd (fun h2 => ?_) (fun h2 => ?_)
  · try simp at h2
    refine jq [4] ?_
    refine W_ret (je (by simp [h2]; rfl) ?_)
    simp [sub, sizeI] at *; omega
  · try simp at h2
    refine W_skip (W_rseqK [1, 2] (jh hX (by simp [h2]; (try (simp (disch := omega) only [wrap_i64]; (try simp [h2]))); rfl)) ?_)
    refine W_seq (jq [1, 2, 18] ?_)
    refine jd (fun h5 => ?_) (fun h5 => ?_)
    · try simp at h5
      refine jq [4] ?_
      refine W_ret (je (by simp [h2, h5]; rfl) ?_)
      simp [sub, sizeI] at *; omega
    · try simp at h5
      refine W_skip (W_rseqK [1] (jh hX (by simp [h2, h5]; (try (simp (disch := omega) only [wrap_i64]; (try simp [h2, h5]))); rfl)) ?_)
      refine W_seq (jq [1, 25] ?_)
      refine jd (fun h8 => ?_) (fun h8 => ?_)
      · try simp at h8
        refine jq [4] ?_
        refine W_ret (je (by simp [h2, h5, h8]; rfl) ?_)
        simp [sub, sizeI] at *; omega
      · try simp at h8
        refine W_skip (jq [4] ?_)
        refine W_ret (je (by simp [h2, h5, h8]; rfl) ?_)
        simp [sub, sizeI] at *; omega
end Go.Proofs
namespace Go.Proofs
open Go Go.Ev


theorem cb_laws_szInsS : Callable Tryz.prog 209 := ⟨_, Tryz.func209, by kernel_rfl, by kernel_rfl⟩
theorem ct_laws_szInsS {l : List Ins} {z : Int} (h : l.length < 4611686018427387904) (hb : ∀ y ∈ l, bigI y) (h0 : 0 ≤ z) (h1 : z ≤ 1099511627776) : Ct Tryz.prog 209 [.lst false 5 (l.map eI), .int .i64 z] [] (.int .i64 (sub z (l.length + (l.map sizeI).sum))) [] := by
  refine Ct_bodyS tok Tryz.func209 rfl 27 (by kernel_rfl) (by kernel_rfl) fun X hX => ?_
  refine jq [0, 1] ?_
  refine W_rseqK [0, 1] (jh hX (by simp; (try (simp (disch := omega) only [wrap_i64]; (try simp))); rfl)) ?_
  refine W_seq (jq [0, 1, 11] ?_)
  refine jd (fun h2 => ?_) (fun h2 => ?_)
  · try simp at h2
    refine jq [4] ?_
    refine W_ret (je (by simp [h2]; rfl) ?_)
    grind [sub]
  · try simp at h2
    refine W_skip (W_seq (jq [0, 1, 5] ?_))
    refine W_block (W_loopU (α := Nat × Int) [0, 1, 5] (fun p => [(1, .int .i64 p.2), (5, .int .i64 p.1)]) (fun p => []) (fun p => p.1 ≤ l.length ∧ 0 ≤ p.2 ∧ p.2 ≤ 1099511627776 ∧ sub p.2 ((l.drop p.1).map sizeI).sum = sub z (l.length + (l.map sizeI).sum)) (fun p => l.length - p.1) ((0, z - l.length)) (fun p => by simp; rfl) (by simp) ?_ ?_)
    · exact ⟨by simp, by simp; omega, by simp; omega, by simp [sub]; grind⟩
    rintro ⟨i, y⟩ ⟨hi, hy0, hy1, hI⟩
    simp only at hi hy0 hy1 hI
    refine W_seq (W_rseqK [0, 1, 5, 15] (jh hX (by simp [h2]; rfl)) ?_)
    refine jd (fun h5 => ?_) (fun h5 => ?_)
    · try simp at h5
      rw [List.drop_eq_getElem_cons h5] at hI
      simp only [List.map_cons, List.sum_cons] at hI
      refine W_skip (W_seq (W_block (W_rseqK [0, 1, 5] (js hX 5 (by simp [h2, h5]; rfl) (jc [] (c:=(by apply ct_laws_szIns <;> first | assumption | omega | exact hb _ (List.getElem_mem _))) (a:=cb_laws_szIns) (k:=jr))) ?_)))
      refine jq [0, 1, 5, 25] ?_
      refine jd (fun h8 => ?_) (fun h8 => ?_)
      · try simp at h8
        refine jq [4] ?_
        refine W_ret (je (by simp [h2, h5, h8]; rfl) ?_)
        grind [sub]
      · try simp at h8
        refine W_skip (W_reg (jh hX (by simp; (try (simp (disch := omega) only [wrap_i64]; (try simp))); rfl)) ?_)
        refine round_end ((i + 1, sub y (sizeI l[i]))) [0, 1, 5] (by simp [h2, h5, h8]; try (simp (disch := omega) only [wrap_i64])) ?_ ?_
        · exact ⟨by simp; omega, by simp; grind [sub], by simp; grind [sub], by grind [sub]⟩
        · simp; omega
    · try simp at h5
      refine W_exit (jq [4] ?_)
      refine W_ret (je (by simp [h2, h5]; rfl) ?_)
      grind [sub]
end Go.Proofs
namespace Go.Proofs
open Go Go.Ev


theorem cb_laws_szHandler : Callable Tryz.prog 237 := ⟨_, Tryz.func237, by kernel_rfl, by kernel_rfl⟩
theorem ct_laws_szHandler {x : Hdl} {z : Int} (h : bigH x) (h0 : 0 ≤ z) (h1 : z ≤ 1099511627776) : Ct Tryz.prog 237 [eH x, .int .i64 z] [] (.int .i64 (sub z (sizeH x))) [] := by
  simp only [bigH] at h
  refine Ct_bodyS tok Tryz.func237 rfl 13 (by kernel_rfl) (by kernel_rfl) fun X hX => ?_
  refine jq [1, 2] ?_
  refine W_rseqK [1] (jh hX (by simp; (try (simp (disch := omega) only [wrap_i64]; (try simp))); rfl)) ?_
  refine W_seq (jq [1, 11] ?_)
  refine jd (fun h2 => ?_) (fun h2 => ?_)
  · try simp at h2
    refine jq [4] ?_
    refine W_ret (je (by simp [h2]; rfl) ?_)
    simp [sub, sizeH] at *; omega
  · try simp at h2
    refine W_skip (jq [4] ?_)
    refine W_ret (je (by simp [h2]; rfl) ?_)
    simp [sub, sizeH] at *; omega
end Go.Proofs
namespace Go.Proofs
open Go Go.Ev


theorem cb_laws_szHandlerS : Callable Tryz.prog 210 := ⟨_, Tryz.func210, by kernel_rfl, by kernel_rfl⟩
theorem ct_laws_szHandlerS {l : List Hdl} {z : Int} (h : l.length < 4611686018427387904) (hb : ∀ y ∈ l, bigH y) (h0 : 0 ≤ z) (h1 : z ≤ 1099511627776) : Ct Tryz.prog 210 [.lst false 4 (l.map eH), .int .i64 z] [] (.int .i64 (sub z (l.length + (l.map sizeH).sum))) [] := by
  refine Ct_bodyS tok Tryz.func210 rfl 27 (by kernel_rfl) (by kernel_rfl) fun X hX => ?_
  refine jq [0, 1] ?_
  refine W_rseqK [0, 1] (jh hX (by simp; (try (simp (disch := omega) only [wrap_i64]; (try simp))); rfl)) ?_
  refine W_seq (jq [0, 1, 11] ?_)
  refine jd (fun h2 => ?_) (fun h2 => ?_)
  · try simp at h2
    refine jq [4] ?_
    refine W_ret (je (by simp [h2]; rfl) ?_)
    grind [sub]
  · try simp at h2
    refine W_skip (W_seq (jq [0, 1, 5] ?_))
    refine W_block (W_loopU (α := Nat × Int) [0, 1, 5] (fun p => [(1, .int .i64 p.2), (5, .int .i64 p.1)]) (fun p => []) (fun p => p.1 ≤ l.length ∧ 0 ≤ p.2 ∧ p.2 ≤ 1099511627776 ∧ sub p.2 ((l.drop p.1).map sizeH).sum = sub z (l.length + (l.map sizeH).sum)) (fun p => l.length - p.1) ((0, z - l.length)) (fun p => by simp; rfl) (by simp) ?_ ?_)
    · exact ⟨by simp, by simp; omega, by simp; omega, by simp [sub]; grind⟩
    rintro ⟨i, y⟩ ⟨hi, hy0, hy1, hI⟩
    simp only at hi hy0 hy1 hI
    refine W_seq (W_rseqK [0, 1, 5, 15] (jh hX (by simp [h2]; rfl)) ?_)
    refine jd (fun h5 => ?_) (fun h5 => ?_)
    · try simp at h5
      rw [List.drop_eq_getElem_cons h5] at hI
      simp only [List.map_cons, List.sum_cons] at hI
      refine W_skip (W_seq (W_block (W_rseqK [0, 1, 5] (js hX 5 (by simp [h2, h5]; rfl) (jc [] (c:=(by apply ct_laws_szHandler <;> first | assumption | omega | exact hb _ (List.getElem_mem _))) (a:=cb_laws_szHandler) (k:=jr))) ?_)))
      refine jq [0, 1, 5, 25] ?_
      refine jd (fun h8 => ?_) (fun h8 => ?_)
      · try simp at h8
        refine jq [4] ?_
        refine W_ret (je (by simp [h2, h5, h8]; rfl) ?_)
        grind [sub]
      · try simp at h8
        refine W_skip (W_reg (jh hX (by simp; (try (simp (disch := omega) only [wrap_i64]; (try simp))); rfl)) ?_)
        refine round_end ((i + 1, sub y (sizeH l[i]))) [0, 1, 5] (by simp [h2, h5, h8]; try (simp (disch := omega) only [wrap_i64])) ?_ ?_
        · exact ⟨by simp; omega, by simp; grind [sub], by simp; grind [sub], by grind [sub]⟩
        · simp; omega
    · try simp at h5
      refine W_exit (jq [4] ?_)
      refine W_ret (je (by simp [h2, h5]; rfl) ?_)
      grind [sub]
end Go.Proofs
namespace Go.Proofs
open Go Go.Ev


theorem cb_laws_szMethod : Callable Tryz.prog 161 := ⟨_, Tryz.func161, by kernel_rfl, by kernel_rfl⟩
theorem ct_laws_szMethod {x : Mth} {z : Int} (h : bigM x) (h0 : 0 ≤ z) (h1 : z ≤ 1099511627776) : Ct Tryz.prog 161 [eM x, .int .i64 z] [] (.int .i64 (sub z (sizeM x))) [] := by
  simp only [bigM] at h
  obtain ⟨g0, g1, g2, g3, g4, g5⟩ := h
  refine Ct_bodyS tok Tryz.func161 rfl 32 (by kernel_rfl) (by kernel_rfl) fun X hX => ?_
  refine jq [1, 2] ?_
  refine W_rseqK [1, 2] (jh hX (by simp; (try (simp (disch := omega) only [wrap_i64]; (try simp))); rfl)) ?_
  refine W_seq (jq [1, 2, 11] ?_)
  refine jd (fun h2 => ?_) (fun h2 => ?_)
  · try simp at h2
    refine jq [4] ?_
    refine W_ret (je (by simp [h2]; rfl) ?_)
    grind [sub, sizeM]
  · try simp at h2
    refine W_skip (W_rseqK [1, 2] (jh hX (by simp [h2]; (try (simp (disch := omega) only [wrap_i64]; (try simp [h2]))); rfl)) ?_)
    refine W_seq (jq [1, 2, 18] ?_)
    refine jd (fun h5 => ?_) (fun h5 => ?_)
    · try simp at h5
      refine jq [4] ?_
      refine W_ret (je (by simp [h2, h5]; rfl) ?_)
      grind [sub, sizeM]
    · try simp at h5
      refine W_skip (W_rseqK [1, 2] (js hX 3 (by simp [h2, h5]; rfl) (jc [] (c:=(by apply ct_laws_szInsS <;> first | assumption | omega | grind [sub])) (a:=cb_laws_szInsS) (k:=jr))) ?_)
      refine W_seq (jq [1, 2, 24] ?_)
      refine jd (fun h8 => ?_) (fun h8 => ?_)
      · try simp at h8
        refine jq [4] ?_
        refine W_ret (je (by simp [h2, h5, h8]; rfl) ?_)
        grind [sub, sizeM]
      · try simp at h8
        refine W_skip (W_rseqK [1] (js hX 3 (by simp [h2, h5, h8]; rfl) (jc [] (c:=(by apply ct_laws_szHandlerS <;> first | assumption | omega | grind [sub])) (a:=cb_laws_szHandlerS) (k:=jr))) ?_)
        refine W_seq (jq [1, 30] ?_)
        refine jd (fun h11 => ?_) (fun h11 => ?_)
        · try simp at h11
          refine jq [4] ?_
          refine W_ret (je (by simp [h2, h5, h8, h11]; rfl) ?_)
          grind [sub, sizeM]
        · try simp at h11
          refine W_skip (jq [4] ?_)
          refine W_ret (je (by simp [h2, h5, h8, h11]; rfl) ?_)
          grind [sub, sizeM]
end Go.Proofs
namespace Go.Proofs
open Go Go.Ev


theorem cb_laws_szMethodS : Callable Tryz.prog 109 := ⟨_, Tryz.func109, by kernel_rfl, by kernel_rfl⟩
theorem ct_laws_szMethodS {l : List Mth} {z : Int} (h : l.length < 4611686018427387904) (hb : ∀ y ∈ l, bigM y) (h0 : 0 ≤ z) (h1 : z ≤ 1099511627776) : Ct Tryz.prog 109 [.lst false 9 (l.map eM), .int .i64 z] [] (.int .i64 (sub z (l.length + (l.map sizeM).sum))) [] := by
  refine Ct_bodyS tok Tryz.func109 rfl 27 (by kernel_rfl) (by kernel_rfl) fun X hX => ?_
  refine jq [0, 1] ?_
  refine W_rseqK [0, 1] (jh hX (by simp; (try (simp (disch := omega) only [wrap_i64]; (try simp))); rfl)) ?_
  refine W_seq (jq [0, 1, 11] ?_)
  refine jd (fun h2 => ?_) (fun h2 => ?_)
  · try simp at h2
    refine jq [4] ?_
    refine W_ret (je (by simp [h2]; rfl) ?_)
    grind [sub]
  · try simp at h2
    refine W_skip (W_seq (jq [0, 1, 5] ?_))
    refine W_block (W_loopU (α := Nat × Int) [0, 1, 5] (fun p => [(1, .int .i64 p.2), (5, .int .i64 p.1)]) (fun p => []) (fun p => p.1 ≤ l.length ∧ 0 ≤ p.2 ∧ p.2 ≤ 1099511627776 ∧ sub p.2 ((l.drop p.1).map sizeM).sum = sub z (l.length + (l.map sizeM).sum)) (fun p => l.length - p.1) ((0, z - l.length)) (fun p => by simp; rfl) (by simp) ?_ ?_)
    · exact ⟨by simp, by simp; omega, by simp; omega, by simp [sub]; grind⟩
    rintro ⟨i, y⟩ ⟨hi, hy0, hy1, hI⟩
    simp only at hi hy0 hy1 hI
    refine W_seq (W_rseqK [0, 1, 5, 15] (jh hX (by simp [h2]; rfl)) ?_)
    refine jd (fun h5 => ?_) (fun h5 => ?_)
    · try simp at h5
      rw [List.drop_eq_getElem_cons h5] at hI
      simp only [List.map_cons, List.sum_cons] at hI
      refine W_skip (W_seq (W_block (W_rseqK [0, 1, 5] (js hX 5 (by simp [h2, h5]; rfl) (jc [] (c:=(by apply ct_laws_szMethod <;> first | assumption | omega | exact hb _ (List.getElem_mem _))) (a:=cb_laws_szMethod) (k:=jr))) ?_)))
      refine jq [0, 1, 5, 25] ?_
      refine jd (fun h8 => ?_) (fun h8 => ?_)
      · try simp at h8
        refine jq [4] ?_
        refine W_ret (je (by simp [h2, h5, h8]; rfl) ?_)
        grind [sub]
      · try simp at h8
        refine W_skip (W_reg (jh hX (by simp; (try (simp (disch := omega) only [wrap_i64]; (try simp))); rfl)) ?_)
        refine round_end ((i + 1, sub y (sizeM l[i]))) [0, 1, 5] (by simp [h2, h5, h8]; try (simp (disch := omega) only [wrap_i64])) ?_ ?_
        · exact ⟨by simp; omega, by simp; grind [sub], by simp; grind [sub], by grind [sub]⟩
        · simp; omega
    · try simp at h5
      refine W_exit (jq [4] ?_)
      refine W_ret (je (by simp [h2, h5]; rfl) ?_)
      grind [sub]
end Go.Proofs
namespace Go.Proofs
open Go Go.Ev


theorem cb_laws_szClass : Callable Tryz.prog 60 := ⟨_, Tryz.func60, by kernel_rfl, by kernel_rfl⟩
theorem ct_laws_szClass {x : Cls} {z : Int} (h : bigC x) (h0 : 0 ≤ z) (h1 : z ≤ 1099511627776) : Ct Tryz.prog 60 [eC x, .int .i64 z] [] (.int .i64 (sub z (sizeC x))) [] := by
  simp only [bigC] at h
  obtain ⟨g0, g1, g2, g3, g4, g5⟩ := h
  refine Ct_bodyS tok Tryz.func60 rfl 32 (by kernel_rfl) (by kernel_rfl) fun X hX => ?_
  refine jq [1, 2] ?_
  refine W_rseqK [1, 2] (jh hX (by simp; (try (simp (disch := omega) only [wrap_i64]; (try simp))); rfl)) ?_
  refine W_seq (jq [1, 2, 11] ?_)
  refine jd (fun h2 => ?_) (fun h2 => ?_)
  · try simp at h2
    refine jq [4] ?_
    refine W_ret (je (by simp [h2]; rfl) ?_)
    grind [sub, sizeC]
  · try simp at h2
    refine W_skip (W_rseqK [1, 2] (jh hX (by simp [h2]; (try (simp (disch := omega) only [wrap_i64]; (try simp [h2]))); rfl)) ?_)
    refine W_seq (jq [1, 2, 18] ?_)
    refine jd (fun h5 => ?_) (fun h5 => ?_)
    · try simp at h5
      refine jq [4] ?_
      refine W_ret (je (by simp [h2, h5]; rfl) ?_)
      grind [sub, sizeC]
    · try simp at h5
      refine W_skip (W_rseqK [1, 2] (js hX 3 (by simp [h2, h5]; rfl) (jc [] (c:=(by apply ct_laws_szFieldS <;> first | assumption | omega | grind [sub])) (a:=cb_laws_szFieldS) (k:=jr))) ?_)
      refine W_seq (jq [1, 2, 24] ?_)
      refine jd (fun h8 => ?_) (fun h8 => ?_)
      · try simp at h8
        refine jq [4] ?_
        refine W_ret (je (by simp [h2, h5, h8]; rfl) ?_)
        grind [sub, sizeC]
      · try simp at h8
        refine W_skip (W_rseqK [1] (js hX 3 (by simp [h2, h5, h8]; rfl) (jc [] (c:=(by apply ct_laws_szMethodS <;> first | assumption | omega | grind [sub])) (a:=cb_laws_szMethodS) (k:=jr))) ?_)
        refine W_seq (jq [1, 30] ?_)
        refine jd (fun h11 => ?_) (fun h11 => ?_)
        · try simp at h11
          refine jq [4] ?_
          refine W_ret (je (by simp [h2, h5, h8, h11]; rfl) ?_)
          grind [sub, sizeC]
        · try simp at h11
          refine W_skip (jq [4] ?_)
          refine W_ret (je (by simp [h2, h5, h8, h11]; rfl) ?_)
          grind [sub, sizeC]
end Go.Proofs
namespace Go.Proofs
open Go Go.Ev


theorem cb_laws_szClassS : Callable Tryz.prog 15 := ⟨_, Tryz.func15, by kernel_rfl, by kernel_rfl⟩
theorem ct_laws_szClassS {l : List Cls} {z : Int} (h : l.length < 4611686018427387904) (hb : ∀ y ∈ l, bigC y) (h0 : 0 ≤ z) (h1 : z ≤ 1099511627776) : Ct Tryz.prog 15 [.lst false 6 (l.map eC), .int .i64 z] [] (.int .i64 (sub z (l.length + (l.map sizeC).sum))) [] := by
  refine Ct_bodyS tok Tryz.func15 rfl 27 (by kernel_rfl) (by kernel_rfl) fun X hX => ?_
  refine jq [0, 1] ?_
  refine W_rseqK [0, 1] (jh hX (by simp; (try (simp (disch := omega) only [wrap_i64]; (try simp))); rfl)) ?_
  refine W_seq (jq [0, 1, 11] ?_)
  refine jd (fun h2 => ?_) (fun h2 => ?_)
  · try simp at h2
    refine jq [4] ?_
    refine W_ret (je (by simp [h2]; rfl) ?_)
    grind [sub]
  · try simp at h2
    refine W_skip (W_seq (jq [0, 1, 5] ?_))
    refine W_block (W_loopU (α := Nat × Int) [0, 1, 5] (fun p => [(1, .int .i64 p.2), (5, .int .i64 p.1)]) (fun p => []) (fun p => p.1 ≤ l.length ∧ 0 ≤ p.2 ∧ p.2 ≤ 1099511627776 ∧ sub p.2 ((l.drop p.1).map sizeC).sum = sub z (l.length + (l.map sizeC).sum)) (fun p => l.length - p.1) ((0, z - l.length)) (fun p => by simp; rfl) (by simp) ?_ ?_)
    · exact ⟨by simp, by simp; omega, by simp; omega, by simp [sub]; grind⟩
    rintro ⟨i, y⟩ ⟨hi, hy0, hy1, hI⟩
    simp only at hi hy0 hy1 hI
    refine W_seq (W_rseqK [0, 1, 5, 15] (jh hX (by simp [h2]; rfl)) ?_)
    refine jd (fun h5 => ?_) (fun h5 => ?_)
    · try simp at h5
      rw [List.drop_eq_getElem_cons h5] at hI
      simp only [List.map_cons, List.sum_cons] at hI
      refine W_skip (W_seq (W_block (W_rseqK [0, 1, 5] (js hX 5 (by simp [h2, h5]; rfl) (jc [] (c:=(by apply ct_laws_szClass <;> first | assumption | omega | exact hb _ (List.getElem_mem _))) (a:=cb_laws_szClass) (k:=jr))) ?_)))
      refine jq [0, 1, 5, 25] ?_
      refine jd (fun h8 => ?_) (fun h8 => ?_)
      · try simp at h8
        refine jq [4] ?_
        refine W_ret (je (by simp [h2, h5, h8]; rfl) ?_)
        grind [sub]
      · try simp at h8
        refine W_skip (W_reg (jh hX (by simp; (try (simp (disch := omega) only [wrap_i64]; (try simp))); rfl)) ?_)
        refine round_end ((i + 1, sub y (sizeC l[i]))) [0, 1, 5] (by simp [h2, h5, h8]; try (simp (disch := omega) only [wrap_i64])) ?_ ?_
        · exact ⟨by simp; omega, by simp; grind [sub], by simp; grind [sub], by grind [sub]⟩
        · simp; omega
    · try simp at h5
      refine W_exit (jq [4] ?_)
      refine W_ret (je (by simp [h2, h5]; rfl) ?_)
      grind [sub]
end Go.Proofs
namespace Go.Proofs
open Go Go.Ev


theorem cb_spec_BuiltIn : Callable Tryz.prog 139 := ⟨_, Tryz.func139, by kernel_rfl, by kernel_rfl⟩
theorem ct_spec_BuiltIn  : Ct Tryz.prog 139 [] [] (.lst true 1 (builtIn.map V.str)) [] := by
  refine Ct_bodyS tok Tryz.func139 rfl 2 (by kernel_rfl) (by kernel_rfl) fun X hX => ?_
  refine jq [] ?_
  refine jq [0] ?_
  refine W_ret (je0 ?_)
  simp [builtIn]
end Go.Proofs
namespace Go.Proofs
open Go Go.Ev


theorem cb_spec_l05Built : Callable Tryz.prog 111 := ⟨_, Tryz.func111, by kernel_rfl, by kernel_rfl⟩
theorem ct_spec_l05Built {n : Str} : Ct Tryz.prog 111 [.str n] [] (.int .i64 (builtIx n)) [] := by
  have hbl := builtIn_length
  refine Ct_bodyS tok Tryz.func111 rfl 19 (by kernel_rfl) (by kernel_rfl) fun X hX => ?_
  refine jq [0] ?_
  refine W_rseqK [0, 3] (jc [] (c:=(by apply ct_spec_BuiltIn <;> first | assumption | omega | (simp at *; omega) | simp_all)) (a:=cb_spec_BuiltIn) (k:=jr)) ?_
  refine W_seq (jq [0, 3, 4] ?_)
  refine W_block (W_loopU (α := Nat) [0, 3, 4] (fun i => [(4, .int .i64 i)]) (fun i => []) (fun i => i ≤ 8 ∧ ixFrom n (builtIn.drop i) i = builtIx n) (fun i => 8 - i) (0) (fun i => by simp; rfl) (by simp) ?_ ?_)
  · simp [builtIx]
  rintro i ⟨hi, hI⟩
  refine W_seq (jq [0, 3, 4, 9] ?_)
  refine jd (fun h3 => ?_) (fun h3 => ?_)
  · try simp at h3
    rw [List.drop_eq_getElem_cons h3] at hI
    simp only [ixFrom] at hI
    refine W_skip (W_seq (W_block (W_rseqK [0, 3, 4, 17] (jh hX (by simp [h3]; rfl)) ?_)))
    refine jd (fun h5 => ?_) (fun h5 => ?_)
    · try simp at h5
      refine jq [2] ?_
      refine W_ret (je (by simp [h3]; rfl) ?_)
      simp [← hI, h5]
    · try simp at h5
      refine W_skip (W_reg (jh hX (by simp; (try (simp (disch := omega) only [wrap_i64]; (try simp))); rfl)) ?_)
      refine round_end (i + 1) [0, 3, 4] (by simp [h3]; try (simp (disch := omega) only [wrap_i64])) ?_ ?_
      · exact ⟨by omega, by simp [← hI, h5]⟩
      · omega
  · try simp at h3
    refine W_exit (jq [2] ?_)
    refine W_ret (je (by simp [h3]; rfl) ?_)
    simp [← hI, List.drop_eq_nil_of_le h3, ixFrom]
end Go.Proofs
namespace Go.Proofs
open Go Go.Ev


theorem cb_spec_l05Find : Callable Tryz.prog 112 := ⟨_, Tryz.func112, by kernel_rfl, by kernel_rfl⟩
theorem ct_spec_l05Find {l : List Cls} {n : Str} (hl : l.length ≤ 1099511627776) : Ct Tryz.prog 112 [.lst false 6 (l.map eC), .str n] [] (.int .i64 (findFrom n l 0)) [] := by
  refine Ct_bodyS tok Tryz.func112 rfl 20 (by kernel_rfl) (by kernel_rfl) fun X hX => ?_
  refine jq [0, 1] ?_
  refine W_seq (jq [0, 1, 5] ?_)
  refine W_block (W_loopU (α := Nat) [0, 1, 5] (fun i => [(5, .int .i64 i)]) (fun i => []) (fun i => i ≤ l.length ∧ findFrom n (l.drop i) i = findFrom n l 0) (fun i => l.length - i) (0) (fun i => by simp; rfl) (by simp) ?_ ?_)
  · simp
  rintro i ⟨hi, hI⟩
  refine W_seq (jq [0, 1, 5, 9] ?_)
  refine jd (fun h2 => ?_) (fun h2 => ?_)
  · try simp at h2
    rw [List.drop_eq_getElem_cons h2] at hI
    simp only [findFrom] at hI
    refine W_skip (W_seq (W_block (W_rseqK [0, 1, 5, 18] (jh hX (by simp [h2]; rfl)) ?_)))
    refine jd (fun h4 => ?_) (fun h4 => ?_)
    · try simp at h4
      refine jq [4] ?_
      refine W_ret (je (by simp [h2]; rfl) ?_)
      simp [← hI, h4]
    · try simp at h4
      refine W_skip (W_reg (jh hX (by simp; (try (simp (disch := omega) only [wrap_i64]; (try simp))); rfl)) ?_)
      refine round_end (i + 1) [0, 1, 5] (by simp [h2]; try (simp (disch := omega) only [wrap_i64])) ?_ ?_
      · exact ⟨by omega, by simp [← hI, h4]⟩
      · omega
  · try simp at h2
    refine W_exit (jq [4] ?_)
    refine W_ret (je (by simp [h2]; rfl) ?_)
    simp [← hI, List.drop_eq_nil_of_le h2, findFrom]
end Go.Proofs
namespace Go.Proofs
open Go Go.Ev


theorem cb_spec_l05Known : Callable Tryz.prog 62 := ⟨_, Tryz.func62, by kernel_rfl, by kernel_rfl⟩
theorem ct_spec_l05Known {l : List Cls} {n : Str} (hl : l.length ≤ 1099511627776) : Ct Tryz.prog 62 [.lst false 6 (l.map eC), .str n] [] (.bool (isKnown l n)) [] := by
  refine Ct_bodyS tok Tryz.func62 rfl 14 (by kernel_rfl) (by kernel_rfl) fun X hX => ?_
  refine jq [0, 1] ?_
  refine W_rseqK [4] (jt 1 (k:=(jc [] (c:=(by apply ct_spec_l05Built <;> first | assumption | omega | (simp at *; omega) | simp_all)) (a:=cb_spec_l05Built) (k:=(jt 2 (k:=(jm 5 8 [13] (p:=fun b1_4 => by (try simp at b1_4); exact (jh hX (by simp [-atD_lt, -atL_lt]; rfl))) (q:=fun b1_4 => by (try simp at b1_4); exact (js hX 2 (by simp [-atD_lt, -atL_lt]; rfl) (Runs.call [] rfl (by simp) rfl (by simp [-atD_lt, -atL_lt]; rfl) (by simp; rfl) (by apply ct_spec_l05Find <;> first | assumption | omega | (simp at *; omega) | simp_all) cb_spec_l05Find (by simp) (by simp) (by simp [-atD_lt, -atL_lt]; rfl) (jh hX (by simp [-atD_lt, -atL_lt]; rfl))))) (k:=jr)))))))) ?_
  refine W_ret (je0 ?_)
  (try simp_all [isKnown])
end Go.Proofs
namespace Go.Proofs
open Go Go.Ev


theorem cb_spec_l01NameByte : Callable Tryz.prog 232 := ⟨_, Tryz.func232, by kernel_rfl, by kernel_rfl⟩
theorem ct_spec_l01NameByte {c : UInt8} {f : Bool} : Ct Tryz.prog 232 [.int .u8 c.toNat, .bool f] [] (.bool (nameByte c f)) [] := by
  refine Ct_bodyS tok Tryz.func232 rfl 33 (by kernel_rfl) (by kernel_rfl) fun X hX => ?_
  refine jq [0, 1] ?_
  refine W_seq (W_rseqK [0, 1, 22] (jt 3 (k:=(jm 3 7 [0, 1, 10] (p:=fun b1_3 => by (try simp at b1_3); exact (jh hX (by simp [-atD_lt, -atL_lt]; rfl))) (q:=fun b1_3 => by (try simp at b1_3); exact (jh hX (by simp [-atD_lt, -atL_lt]; rfl))) (k:=(jt 1 (k:=(jm 7 11 [0, 1, 18] (p:=fun b1_7 => by (try simp at b1_7); exact (jh hX (by simp [-atD_lt, -atL_lt]; rfl))) (q:=fun b1_7 => by (try simp at b1_7); exact (js hX 3 (by simp [-atD_lt, -atL_lt]; rfl) (jm 3 14 [0, 1, 11, 17] (p:=fun b1_10 => by (try simp at b1_10); exact (jh hX (by simp [-atD_lt, -atL_lt]; rfl))) (q:=fun b1_10 => by (try simp at b1_10); exact (jh hX (by simp [-atD_lt, -atL_lt]; rfl))) (k:=(jh hX (by simp [-atD_lt, -atL_lt]; rfl)))))) (k:=(jt 1 (k:=(jm 3 19 [0, 1, 22] (p:=fun b1_15 => by (try simp at b1_15); exact (jh hX (by simp [-atD_lt, -atL_lt]; rfl))) (q:=fun b1_15 => by (try simp at b1_15); exact (jh hX (by simp [-atD_lt, -atL_lt]; rfl))) (k:=jf)))))))))))) ?_)
  refine jd (fun h1 => ?_) (fun h1 => ?_)
  · try simp at h1
    refine jq [4] ?_
    refine W_ret (je (by simp [h1]; rfl) ?_)
    (try simp_all [nameByte]) <;> grind [nameByte]
  · try simp at h1
    refine W_skip (W_rseqK [4] (jt 3 (k:=(jm 3 25 [0, 28] (p:=fun b3_3 => by (try simp at b3_3); exact (jh hX (by simp [-atD_lt, -atL_lt]; rfl))) (q:=fun b3_3 => by (try simp at b3_3); exact (jh hX (by simp [-atD_lt, -atL_lt]; rfl))) (k:=(jt 1 (k:=(jm 3 29 [32] (p:=fun b3_7 => by (try simp at b3_7); exact (jh hX (by simp [-atD_lt, -atL_lt]; rfl))) (q:=fun b3_7 => by (try simp at b3_7); exact (jh hX (by simp [-atD_lt, -atL_lt]; rfl))) (k:=jr)))))))) ?_)
    refine W_ret (je (by simp [h1]; rfl) ?_)
    (try simp_all [nameByte]) <;> grind [nameByte]
end Go.Proofs
namespace Go.Proofs
open Go Go.Ev


theorem cb_spec_NameRight : Callable Tryz.prog 211 := ⟨_, Tryz.func211, by kernel_rfl, by kernel_rfl⟩
theorem ct_spec_NameRight {t : Str} (ht : t.length ≤ 1099511627776) : Ct Tryz.prog 211 [.str t] [] (.bool (nameRight t)) [] := by
  refine Ct_bodyS tok Tryz.func211 rfl 25 (by kernel_rfl) (by kernel_rfl) fun X hX => ?_
  refine jq [0] ?_
  refine W_seq (W_rseqK [0, 11] (jt 4 (k:=(jm 4 7 [0, 11] (p:=fun b1_4 => by (try simp at b1_4); exact (jh hX (by simp [-atD_lt, -atL_lt]; rfl))) (q:=fun b1_4 => by (try simp at b1_4); exact (jh hX (by simp [-atD_lt, -atL_lt, b1_4]; rfl))) (k:=jf)))) ?_)
  refine jd (fun h1 => ?_) (fun h1 => ?_)
  · try simp at h1
    refine jq [2] ?_
    refine W_ret (je (by simp [h1]; rfl) ?_)
    grind [nameRight]
  · try simp at h1
    refine W_skip (W_seq (jq [0, 3] ?_))
    refine W_block (W_loopU (α := Nat) [0, 3] (fun i => [(3, .int .i64 i)]) (fun i => []) (fun i => i ≤ t.length ∧ nameFrom (decide (i = 0)) (t.drop i) = nameFrom true t) (fun i => t.length - i) (0) (fun i => by simp; rfl) (by simp) ?_ ?_)
    · simp
    rintro i ⟨hi, hI⟩
    refine W_seq (W_rseqK [0, 3, 15] (jh hX (by simp [h1]; rfl)) ?_)
    refine jd (fun h4 => ?_) (fun h4 => ?_)
    · try simp at h4
      rw [List.drop_eq_getElem_cons h4] at hI
      simp only [nameFrom] at hI
      refine W_skip (W_seq (W_block (W_rseqK [0, 3, 24] (js hX 5 (by simp [h1, h4]; rfl) (jc [] (c:=(by apply ct_spec_l01NameByte <;> first | assumption | omega | (simp at *; omega) | simp_all)) (a:=cb_spec_l01NameByte) (k:=jr))) ?_)))
      refine jd (fun h6 => ?_) (fun h6 => ?_)
      · try simp at h6
        refine jq [2] ?_
        refine W_ret (je (by simp [h1, h4]; rfl) ?_)
        grind [nameRight]
      · try simp at h6
        refine W_skip (W_reg (jh hX (by simp; (try (simp (disch := omega) only [wrap_i64]; (try simp))); rfl)) ?_)
        refine round_end (i + 1) [0, 3] (by simp [h1, h4]; try (simp (disch := omega) only [wrap_i64])) ?_ ?_
        · exact ⟨by omega, by simp_all⟩
        · omega
    · try simp at h4
      rw [List.drop_eq_nil_of_le h4] at hI
      simp only [nameFrom] at hI
      refine W_exit (jq [2] ?_)
      refine W_ret (je (by simp [h1, h4]; rfl) ?_)
      grind [nameRight]
end Go.Proofs
namespace Go.Proofs
open Go Go.Ev


theorem cb_spec_l02Type : Callable Tryz.prog 200 := ⟨_, Tryz.func200, by kernel_rfl, by kernel_rfl⟩
theorem ct_spec_l02Type_t {t : Str} {p : Nat} (ht : t.length ≤ 1099511627776) (hp : p ≤ t.length) : Ct Tryz.prog 200 [.str t, .int .i64 p, .bool true] [] (.tup [.int .i64 (tyP1 t p).1, .bool (tyP1 t p).2]) [] := by
  refine Ct_bodyS tok Tryz.func200 rfl 85 (by kernel_rfl) (by kernel_rfl) fun X hX => ?_
  refine jq [0, 1, 2] ?_
  refine W_seq (jq [0, 1, 2, 13] ?_)
  refine jd (fun h1 => ?_) (fun h1 => ?_)
  · try simp at h1
    refine jq [6, 7] ?_
    refine W_ret (je (by simp [h1]; rfl) ?_)
    simp_all [tyP, tyP1, nmP, isAt_lt, isAt_ge]
  · try simp at h1
    refine W_skip (W_seq (W_block (W_rseqK [0, 1, 2, 15] (jh hX (by simp [h1]; rfl)) ?_)))
    refine jd (fun h3 => ?_) (fun h3 => ?_)
    · try simp at h3
      refine W_rseqK [6, 7] (jh hX (by simp; (try (simp (disch := omega) only [wrap_i64]; (try simp))); rfl)) ?_
      refine W_ret (je (by simp [h1]; rfl) ?_)
      simp_all [tyP, tyP1, nmP, isAt_lt, isAt_ge]
    · try simp at h3
      refine W_rseqK [0, 1, 22] (js hX 5 (by simp [h1]; rfl) (jm 3 27 [0, 1, 30] (p:=fun b5_5 => by (try simp at b5_5); exact (jh hX (by simp [-atD_lt, -atL_lt]; rfl))) (q:=fun b5_5 => by (try simp at b5_5); exact (jh hX (by simp [-atD_lt, -atL_lt]; rfl))) (k:=jr))) ?_
      refine jd (fun h5 => ?_) (fun h5 => ?_)
      · try simp at h5
        --done
      · try simp at h5
        refine W_rseqK [0, 1, 37] (jh hX (by simp [h1]; rfl)) ?_
        refine jd (fun h7 => ?_) (fun h7 => ?_)
        · try simp at h7
          refine W_rseqK [0, 8] (jh hX (by simp; (try (simp (disch := omega) only [wrap_i64]; (try simp))); rfl)) ?_
          refine jq [0, 8, 9] ?_
          refine W_seq (W_block (W_loopU (α := Nat) [0, 8, 9] (fun i => [(9, .int .i64 i)]) (fun i => []) (fun i => p + 1 ≤ i ∧ i ≤ t.length ∧ i - (p + 1) ≤ 20 ∧ i + nameRun (20 - (i - (p + 1))) (decide (i = p + 1)) (t.drop i) = p + 1 + nameRun 20 true (t.drop (p + 1))) (fun i => t.length - i) (p + 1) (fun i => by simp; rfl) (by simp) ?_ ?_))
          · simp; omega
          rintro i ⟨h0i, hi, hn, hI⟩
          refine W_seq (W_rseqK [0, 8, 9, 63] (js hX 5 (by simp [h1]; rfl) (jm 5 49 [0, 8, 9, 54] (p:=fun b10_5 => by (try simp at b10_5); exact (jh hX (by simp [-atD_lt, -atL_lt]; (try (simp (disch := omega) only [wrap_i64]; (try simp [-atD_lt, -atL_lt]))); rfl))) (q:=fun b10_5 => by (try simp at b10_5); exact (jh hX (by simp [-atD_lt, -atL_lt]; rfl))) (k:=(jt 1 (k:=(jm 8 55 [0, 8, 9, 63] (p:=fun b10_11 => by (try simp at b10_11); exact (js hX 6 (by simp [-atD_lt, -atL_lt, h1, b10_11]; rfl) (Runs.call [] rfl (by simp) rfl (by simp [-atD_lt, -atL_lt]; rfl) (by simp; rfl) (by apply ct_spec_l01NameByte <;> first | assumption | omega | (simp at *; omega) | simp_all) cb_spec_l01NameByte (by simp) (by simp) (by simp [-atD_lt, -atL_lt]; rfl) (jh hX (by simp [-atD_lt, -atL_lt]; rfl))))) (q:=fun b10_11 => by (try simp at b10_11); exact (jh hX (by simp [-atD_lt, -atL_lt]; rfl))) (k:=jf))))))) ?_)
          have hge : t.length ≤ i → nameRun (20 - (i - (p + 1))) (decide (i = p + 1)) (t.drop i) = 0 := fun h => by rw [List.drop_eq_nil_of_le h]; simp [nameRun]
          have hg2 : i - (p + 1) = 20 → nameRun (20 - (i - (p + 1))) (decide (i = p + 1)) (t.drop i) = 0 := fun h => by rw [h]; simp [nameRun]
          have hg3 := fun h1 h2 => @drop_nameRun t i (p + 1) h1 h2 h0i
          refine jd (fun h10 => ?_) (fun h10 => ?_)
          · try simp at h10
            have ⟨⟨h10a, h10b⟩, h10c⟩ := h10
            rw [atD_lt h10a] at h10c
            rw [hg3 h10a (by omega), if_pos h10c] at hI
            refine W_skip (W_block (W_reg (jh hX (by simp; (try (simp (disch := omega) only [wrap_i64]; (try simp))); rfl)) ?_))
            refine round_end (i + 1) [0, 8, 9] (by simp [h1, h10]; try (simp (disch := omega) only [wrap_i64])) ?_ ?_
            · exact ⟨by omega, by omega, by omega, by omega⟩
            · omega
          · try simp at h10
            have hI2 : i = p + 1 + nameRun 20 true (t.drop (p + 1)) := by
              rcases Nat.lt_or_ge i t.length with hl | hl
              · by_cases hk : i - (p + 1) = 20
                · have := hg2 hk; omega
                · rw [hg3 hl (by omega)] at hI
                  have : nameByte t[i] (decide (i = p + 1)) = false := by
                    rw [← atD_lt hl]; exact h10 hl (by omega)
                  rw [this] at hI; simpa using hI
              · have := hge hl; omega
            have hnm : nmP t (p + 1) = if (isAt t i 59 && !decide (i = p + 1)) then (i + 1, true) else (i, false) := by simp only [nmP, ← hI2]
            have hty : tyP1 t p = nmP t (p + 1) := by simp [tyP1, isAt_lt h1, h3, h7]
            clear hI hI2 hg2 hg3 hge
            refine W_exit (W_seq (W_rseqK [9, 80] (js hX 5 (by simp [h1, h10]; rfl) (jm 5 70 [8, 9, 75] (p:=fun b12_5 => by (try simp at b12_5); exact (jh hX (by simp [-atD_lt, -atL_lt]; rfl))) (q:=fun b12_5 => by (try simp at b12_5); (have hlt : i < t.length := by omega); exact (jh hX (by simp [-atD_lt, -atL_lt, h1, h10, hlt]; rfl))) (k:=(jt 1 (k:=(jm 4 76 [9, 80] (p:=fun b12_11 => by (try simp at b12_11); exact (jh hX (by simp [-atD_lt, -atL_lt]; rfl))) (q:=fun b12_11 => by (try simp at b12_11); exact (jh hX (by simp [-atD_lt, -atL_lt]; rfl))) (k:=jf))))))) ?_))
            refine jd (fun h12 => ?_) (fun h12 => ?_)
            · try simp at h12
              refine jq [6, 7] ?_
              refine W_ret (je (by simp [h1, h10]; rfl) ?_)
              rw [hty, hnm]
              have : (isAt t i 59 && !decide (i = p + 1)) = false := by grind [isAt_lt, isAt_ge, atD_lt]
              simp [this]
            · try simp at h12
              refine W_skip (W_rseqK [6, 7] (jh hX (by simp; (try (simp (disch := omega) only [wrap_i64]; (try simp))); rfl)) ?_)
              refine W_ret (je (by simp [h1, h10]; rfl) ?_)
              rw [hty, hnm]
              have : (isAt t i 59 && !decide (i = p + 1)) = true := by grind [isAt_lt, isAt_ge, atD_lt]
              simp [this]
        · try simp at h7
          refine W_skip (jq [6, 7] ?_)
          refine W_ret (je (by simp [h1]; rfl) ?_)
          simp_all [tyP, tyP1, nmP, isAt_lt, isAt_ge]
theorem ct_spec_l02Type {t : Str} {p : Nat} (ht : t.length ≤ 1099511627776) (hp : p ≤ t.length) : Ct Tryz.prog 200 [.str t, .int .i64 p, .bool false] [] (.tup [.int .i64 (tyP t p).1, .bool (tyP t p).2]) [] := by
  refine Ct_bodyS tok Tryz.func200 rfl 85 (by kernel_rfl) (by kernel_rfl) fun X hX => ?_
  refine jq [0, 1, 2] ?_
  refine W_seq (jq [0, 1, 2, 13] ?_)
  refine jd (fun h1 => ?_) (fun h1 => ?_)
  · try simp at h1
    refine jq [6, 7] ?_
    refine W_ret (je (by simp [h1]; rfl) ?_)
    simp_all [tyP, tyP1, nmP, isAt_lt, isAt_ge]
  · try simp at h1
    refine W_skip (W_seq (W_block (W_rseqK [0, 1, 2, 15] (jh hX (by simp [h1]; rfl)) ?_)))
    refine jd (fun h3 => ?_) (fun h3 => ?_)
    · try simp at h3
      refine W_rseqK [6, 7] (jh hX (by simp; (try (simp (disch := omega) only [wrap_i64]; (try simp))); rfl)) ?_
      refine W_ret (je (by simp [h1]; rfl) ?_)
      simp_all [tyP, tyP1, nmP, isAt_lt, isAt_ge]
    · try simp at h3
      refine W_rseqK [0, 1, 22] (js hX 5 (by simp [h1]; rfl) (jm 3 27 [0, 1, 30] (p:=fun b5_5 => by (try simp at b5_5); exact (jh hX (by simp [-atD_lt, -atL_lt]; rfl))) (q:=fun b5_5 => by (try simp at b5_5); exact (jh hX (by simp [-atD_lt, -atL_lt]; rfl))) (k:=jr))) ?_
      refine jd (fun h5 => ?_) (fun h5 => ?_)
      · try simp at h5
        refine W_rseqK [6, 7] (js hX 3 (by simp; (try (simp (disch := omega) only [wrap_i64]; (try simp))); rfl) (jc [] (c:=(by apply ct_spec_l02Type_t <;> first | assumption | omega | (simp at *; omega) | simp_all)) (a:=cb_spec_l02Type) (k:=jr))) ?_
        refine W_ret (je (by simp [h1]; rfl) ?_)
        simp_all [tyP, tyP1, nmP, isAt_lt, isAt_ge]
      · try simp at h5
        refine W_rseqK [0, 1, 37] (jh hX (by simp [h1]; rfl)) ?_
        refine jd (fun h7 => ?_) (fun h7 => ?_)
        · try simp at h7
          refine W_rseqK [0, 8] (jh hX (by simp; (try (simp (disch := omega) only [wrap_i64]; (try simp))); rfl)) ?_
          refine jq [0, 8, 9] ?_
          refine W_seq (W_block (W_loopU (α := Nat) [0, 8, 9] (fun i => [(9, .int .i64 i)]) (fun i => []) (fun i => p + 1 ≤ i ∧ i ≤ t.length ∧ i - (p + 1) ≤ 20 ∧ i + nameRun (20 - (i - (p + 1))) (decide (i = p + 1)) (t.drop i) = p + 1 + nameRun 20 true (t.drop (p + 1))) (fun i => t.length - i) (p + 1) (fun i => by simp; rfl) (by simp) ?_ ?_))
          · simp; omega
          rintro i ⟨h0i, hi, hn, hI⟩
          refine W_seq (W_rseqK [0, 8, 9, 63] (js hX 5 (by simp [h1]; rfl) (jm 5 49 [0, 8, 9, 54] (p:=fun b10_5 => by (try simp at b10_5); exact (jh hX (by simp [-atD_lt, -atL_lt]; (try (simp (disch := omega) only [wrap_i64]; (try simp [-atD_lt, -atL_lt]))); rfl))) (q:=fun b10_5 => by (try simp at b10_5); exact (jh hX (by simp [-atD_lt, -atL_lt]; rfl))) (k:=(jt 1 (k:=(jm 8 55 [0, 8, 9, 63] (p:=fun b10_11 => by (try simp at b10_11); exact (js hX 6 (by simp [-atD_lt, -atL_lt, h1, b10_11]; rfl) (Runs.call [] rfl (by simp) rfl (by simp [-atD_lt, -atL_lt]; rfl) (by simp; rfl) (by apply ct_spec_l01NameByte <;> first | assumption | omega | (simp at *; omega) | simp_all) cb_spec_l01NameByte (by simp) (by simp) (by simp [-atD_lt, -atL_lt]; rfl) (jh hX (by simp [-atD_lt, -atL_lt]; rfl))))) (q:=fun b10_11 => by (try simp at b10_11); exact (jh hX (by simp [-atD_lt, -atL_lt]; rfl))) (k:=jf))))))) ?_)
          have hge : t.length ≤ i → nameRun (20 - (i - (p + 1))) (decide (i = p + 1)) (t.drop i) = 0 := fun h => by rw [List.drop_eq_nil_of_le h]; simp [nameRun]
          have hg2 : i - (p + 1) = 20 → nameRun (20 - (i - (p + 1))) (decide (i = p + 1)) (t.drop i) = 0 := fun h => by rw [h]; simp [nameRun]
          have hg3 := fun h1 h2 => @drop_nameRun t i (p + 1) h1 h2 h0i
          refine jd (fun h10 => ?_) (fun h10 => ?_)
          · try simp at h10
            have ⟨⟨h10a, h10b⟩, h10c⟩ := h10
            rw [atD_lt h10a] at h10c
            rw [hg3 h10a (by omega), if_pos h10c] at hI
            refine W_skip (W_block (W_reg (jh hX (by simp; (try (simp (disch := omega) only [wrap_i64]; (try simp))); rfl)) ?_))
            refine round_end (i + 1) [0, 8, 9] (by simp [h1, h10]; try (simp (disch := omega) only [wrap_i64])) ?_ ?_
            · exact ⟨by omega, by omega, by omega, by omega⟩
            · omega
          · try simp at h10
            have hI2 : i = p + 1 + nameRun 20 true (t.drop (p + 1)) := by
              rcases Nat.lt_or_ge i t.length with hl | hl
              · by_cases hk : i - (p + 1) = 20
                · have := hg2 hk; omega
                · rw [hg3 hl (by omega)] at hI
                  have : nameByte t[i] (decide (i = p + 1)) = false := by
                    rw [← atD_lt hl]; exact h10 hl (by omega)
                  rw [this] at hI; simpa using hI
              · have := hge hl; omega
            have hnm : nmP t (p + 1) = if (isAt t i 59 && !decide (i = p + 1)) then (i + 1, true) else (i, false) := by simp only [nmP, ← hI2]
            have hty : tyP t p = nmP t (p + 1) := by simp_all [tyP, tyP1, isAt_lt h1]
            clear hI hI2 hg2 hg3 hge
            refine W_exit (W_seq (W_rseqK [9, 80] (js hX 5 (by simp [h1, h10]; rfl) (jm 5 70 [8, 9, 75] (p:=fun b12_5 => by (try simp at b12_5); exact (jh hX (by simp [-atD_lt, -atL_lt]; rfl))) (q:=fun b12_5 => by (try simp at b12_5); (have hlt : i < t.length := by omega); exact (jh hX (by simp [-atD_lt, -atL_lt, h1, h10, hlt]; rfl))) (k:=(jt 1 (k:=(jm 4 76 [9, 80] (p:=fun b12_11 => by (try simp at b12_11); exact (jh hX (by simp [-atD_lt, -atL_lt]; rfl))) (q:=fun b12_11 => by (try simp at b12_11); exact (jh hX (by simp [-atD_lt, -atL_lt]; rfl))) (k:=jf))))))) ?_))
            refine jd (fun h12 => ?_) (fun h12 => ?_)
            · try simp at h12
              refine jq [6, 7] ?_
              refine W_ret (je (by simp [h1, h10]; rfl) ?_)
              rw [hty, hnm]
              have : (isAt t i 59 && !decide (i = p + 1)) = false := by grind [isAt_lt, isAt_ge, atD_lt]
              simp [this]
            · try simp at h12
              refine W_skip (W_rseqK [6, 7] (jh hX (by simp; (try (simp (disch := omega) only [wrap_i64]; (try simp))); rfl)) ?_)
              refine W_ret (je (by simp [h1, h10]; rfl) ?_)
              rw [hty, hnm]
              have : (isAt t i 59 && !decide (i = p + 1)) = true := by grind [isAt_lt, isAt_ge, atD_lt]
              simp [this]
        · try simp at h7
          refine W_skip (jq [6, 7] ?_)
          refine W_ret (je (by simp [h1]; rfl) ?_)
          simp_all [tyP, tyP1, nmP, isAt_lt, isAt_ge]
end Go.Proofs
namespace Go.Proofs
open Go Go.Ev


theorem cb_spec_TypeRight : Callable Tryz.prog 212 := ⟨_, Tryz.func212, by kernel_rfl, by kernel_rfl⟩
theorem ct_spec_TypeRight {t : Str} (ht : t.length ≤ 1099511627776) : Ct Tryz.prog 212 [.str t] [] (.bool (typeRight t)) [] := by
  refine Ct_bodyS tok Tryz.func212 rfl 20 (by kernel_rfl) (by kernel_rfl) fun X hX => ?_
  refine jq [0] ?_
  refine W_seq (jq [0, 7] ?_)
  refine jd (fun h1 => ?_) (fun h1 => ?_)
  · try simp at h1
    refine jq [2] ?_
    refine W_ret (je (by simp [h1]; rfl) ?_)
    (try simp_all [typeRight]) <;> grind
  · try simp at h1
    refine W_skip (W_rseqK [0, 3, 4] (jt 1 (k:=(jc [] (c:=(by apply ct_spec_l02Type <;> first | assumption | omega | (simp at *; omega) | simp_all)) (a:=cb_spec_l02Type) (k:=jr)))) ?_)
    refine W_rseqK [2] (jt 2 (k:=(jm 5 14 [19] (p:=fun b4_2 => by (try simp at b4_2); exact (jh hX (by simp [-atD_lt, -atL_lt, h1]; rfl))) (q:=fun b4_2 => by (try simp at b4_2); exact (jh hX (by simp [-atD_lt, -atL_lt]; rfl))) (k:=jr)))) ?_
    refine W_ret (je (by simp [h1]; rfl) ?_)
    (try simp_all [typeRight]) <;> grind
end Go.Proofs
namespace Go.Proofs
open Go Go.Ev


theorem cb_spec_l02Wrong : Callable Tryz.prog 199 := ⟨_, Tryz.func199, by kernel_rfl, by kernel_rfl⟩
theorem ct_spec_l02Wrong {n : Int} : Ct Tryz.prog 199 [.int .i64 n] [] (.agg [.raw (.slice none 0 0), .str [], .int .i64 n, .int .i64 3]) [] := by
  refine Ct_bodyS tok Tryz.func199 rfl 5 (by kernel_rfl) (by kernel_rfl) fun X hX => ?_
  refine jq [0, 2] ?_
  refine jq [2] ?_
  refine W_ret (je0 ?_)
  rfl
end Go.Proofs
namespace Go.Proofs
open Go Go.Ev


theorem cb_spec_DescRead : Callable Tryz.prog 148 := ⟨_, Tryz.func148, by kernel_rfl, by kernel_rfl⟩
theorem ct_spec_DescRead {t : Str} (ht : t.length ≤ 1099511627776) : Ct Tryz.prog 148 [.str t] [] (eDO (descRead t)) [] := by
  refine Ct_bodyS tok Tryz.func148 rfl 104 (by kernel_rfl) (by kernel_rfl) fun X hX => ?_
  refine jq [0, 2] ?_
  refine W_seq (jq [0, 2, 11] ?_)
  refine jd (fun h1 => ?_) (fun h1 => ?_)
  · try simp at h1
    refine W_rseqK [2] (jh hX (by simp [h1]; rfl)) ?_
    refine W_ret (W_retR (by simp [h1]; rfl) ?_ rfl)
    rw [show descRead t = ⟨[], [], 0, 2⟩ from by unfold descRead; rw [if_pos (by omega)]]
    exact wk_err _ _ _
  · try simp at h1
    have h1c : descRead t = dRead t := by unfold descRead; rw [if_neg (by omega)]
    rw [h1c]
    refine W_skip (W_seq (W_rseqK [0, 2, 20] (js hX 4 (by simp [h1]; rfl) (jm 4 16 [0, 2, 20] (p:=fun b3_4 => by (try simp at b3_4); exact (jh hX (by simp [-atD_lt, -atL_lt]; rfl))) (q:=fun b3_4 => by (try simp at b3_4); (have hlt : 0 < t.length := List.length_pos_iff.2 b3_4); exact (jh hX (by simp [-atD_lt, -atL_lt, h1, hlt]; rfl))) (k:=jf))) ?_))
    refine jd (fun h3 => ?_) (fun h3 => ?_)
    · try simp at h3
      refine W_rseqK [2] (jc [] (c:=(by apply ct_spec_l02Wrong <;> first | assumption | omega)) (a:=cb_spec_l02Wrong) (k:=(jh hX (by simp [h1]; rfl)))) ?_
      refine W_ret (W_retR (by simp [h1]; rfl) ?_ rfl)
      rw [show dRead t = dErr 0 from by unfold dRead; rw [if_neg]; rcases h3 with rfl | h3; simp [isAt]; simp only [isAt]; split <;> simp_all [atD]]
      exact wk_err _ _ _
    · try simp at h3
      have h3c : 0 < t.length := List.length_pos_iff.2 h3.1
      have h3b : isAt t 0 40 = true := by rw [isAt_lt h3c, ← atD_lt h3c]; simpa using h3.2
      refine W_skip (W_rseqK [0, 2, 3] (jh hX (by simp [h1]; rfl)) ?_)
      refine jq [0, 2, 3, 4] ?_
      refine W_seq (W_block (W_le (Le.nilC 1 0 0 1 (by simp; rfl)) ?_))
      refine W_loopU (α := List Str × Nat) [0, 2, 3, 4] (fun a => [(4, .int .i64 a.2)]) (fun a => [(1, some (2, [.agg [.arr 2 0 a.1.length, .str []]])), (2, some (1, a.1.map V.str))]) (fun a => a.2 ≤ t.length ∧ a.1.length ≤ 8 ∧ dParams t (8 - a.1.length) a.2 a.1 = dParams t 8 1 []) (fun a => 8 - a.1.length) (([], 1)) (fun a => by simp; rfl) (by simp) ?_ ?_
      · exact ⟨by simp; omega, by simp, rfl⟩
      rintro ⟨ps, p⟩ ⟨hp, hn, hI⟩
      simp only at hp hn hI
      refine W_seq (W_rseqK [0, 2, 3, 4, 32] (js hX 5 (by simp [h1]; rfl) (jm 5 27 [0, 2, 3, 4, 32] (p:=fun b7_5 => by (try simp at b7_5); exact (jh hX (by simp [-atD_lt, -atL_lt, h1, b7_5]; rfl))) (q:=fun b7_5 => by (try simp at b7_5); exact (jh hX (by simp [-atD_lt, -atL_lt]; rfl))) (k:=jf))) ?_)
      refine jd (fun h7 => ?_) (fun h7 => ?_)
      · try simp at h7
        have h7a := h7.1
        have h7b : isAt t p 41 = false := by rw [isAt_lt h7a, ← atD_lt h7a]; simpa using h7.2
        refine W_skip (W_block (W_seq (W_rseqK [0, 2, 3, 4, 36] (jh hX (by simp [h1, h7]; rfl)) ?_)))
        refine jd (fun h8 => ?_) (fun h8 => ?_)
        · try simp at h8
          have h8b : 8 - ps.length = 0 := by omega
          rw [h8b, dParams, if_neg (by simp [h7b])] at hI
          refine W_rseqK [2] (jt 1 (k:=(jc [] (c:=(by apply ct_spec_l02Wrong <;> first | assumption | omega)) (a:=cb_spec_l02Wrong) (k:=(jh hX (by simp [h1, h7]; rfl)))))) ?_
          refine W_ret (W_retR (by simp [h1, h7]; rfl) ?_ rfl)
          rw [dRead_err h3b hI.symm]
          exact wk_err _ _ _
        · try simp at h8
          have h8b : 8 - ps.length = (8 - (ps.length + 1)) + 1 := by omega
          rw [h8b, dParams, if_neg (by simp [h7b])] at hI
          obtain ⟨hge, hle, hgt, _⟩ := tyP_le hp
          have w1 : (ps.length + 1) * 16 ≤ 140737488355328 := by omega
          have w2 : ps.length ≤ 1099511627775 := by omega
          refine W_skip (W_rseqK [0, 2, 3, 4, 5, 6] (jt 2 (k:=(jc [] (c:=(by apply ct_spec_l02Type <;> first | assumption | omega)) (a:=cb_spec_l02Type) (k:=jr)))) ?_)
          refine W_seq (jq [0, 2, 3, 4, 5, 46] ?_)
          refine jd (fun h11 => ?_) (fun h11 => ?_)
          · try simp at h11
            rw [if_neg (by simp [h11])] at hI
            refine W_rseqK [2] (jt 1 (k:=(jc [] (c:=(by apply ct_spec_l02Wrong <;> first | assumption | omega)) (a:=cb_spec_l02Wrong) (k:=(jh hX (by simp [h1, h7, w1, w2]; rfl)))))) ?_
            refine W_ret (W_retR (by simp [h1, h7, w1, w2]; rfl) ?_ rfl)
            rw [dRead_err h3b hI.symm]
            exact wk_err _ _ _
          · try simp at h11
            rw [if_pos h11] at hI
            have hI3 : dParams t (8 - (ps ++ [seg t p (tyP t p).1]).length) (tyP t p).1 (ps ++ [seg t p (tyP t p).1]) = dParams t 8 1 [] := by simpa using hI
            refine W_skip (jL 7 [0, 1, 2, 3, 4, 5] [6] [0, 2, 3, 5] ([1]) hX (by simp [h1, h7, w1, w2, hge, hle]; rfl) (jH (p:=fun X hX => jr) (k:=.nil)) (jh hX (by simp [h1, h7, w1, w2, hge, hle]; rfl)) ?_)
            refine W_reg jr ?_
            refine round_endT ((ps ++ [seg t p (tyP t p).1], (tyP t p).1)) [0, 2, 3, 4] 3 (by simp [hX]) (by simp) (by simp [seg, h11]; try (simp (disch := omega) only [wrap_i64])) ?_ ?_
            · exact ⟨hle, by simp; omega, hI3⟩
            · simp; omega
      · try simp at h7
        have h7b : p < t.length → isAt t p 41 = true := fun h => by rw [isAt_lt h, ← atD_lt h]; simpa using h7 h
        refine W_exit (W_seq (W_rseqK [0, 2, 3, 4, 62] (jh hX (by simp [h1, h7]; rfl)) ?_))
        refine jd (fun h15 => ?_) (fun h15 => ?_)
        · try simp at h15
          refine W_rseqK [2] (jt 1 (k:=(jc [] (c:=(by apply ct_spec_l02Wrong <;> first | assumption | omega)) (a:=cb_spec_l02Wrong) (k:=(jh hX (by simp [h1, h7]; rfl)))))) ?_
          refine W_ret (W_retR (by simp [h1, h7]; rfl) ?_ rfl)
          have hpl : p = t.length := h15
          rw [show dRead t = dErr p from dRead_err h3b (by rw [← hI]; cases 8 - ps.length <;> simp [dParams, isAt_ge (show t.length ≤ p from by omega), tyP, tyP1]), hpl]
          exact wk_err _ _ _
        · try simp at h15
          have h7d := h7b (by omega)
          have hd : dRead t = dTail t ps p := dRead_ok h3b (by rw [← hI]; cases 8 - ps.length <;> simp [dParams, h7d])
          rw [hd]
          have w0 : p + 1 ≤ t.length := by omega
          have wp : ps.length ≤ ps.length := Nat.le_refl _
          refine W_skip (W_rseqK [0, 2, 3, 4] (jh hX (by simp; (try (simp (disch := omega) only [wrap_i64]; (try simp))); rfl)) ?_)
          refine W_seq (W_rseqK [0, 2, 3, 4, 76] (js hX 5 (by simp [h1, h7, w0]; rfl) (jm 5 71 [0, 2, 3, 4, 76] (p:=fun b18_5 => by (try simp at b18_5); exact (jh hX (by simp [-atD_lt, -atL_lt, h1, h7, w0, b18_5]; rfl))) (q:=fun b18_5 => by (try simp at b18_5); exact (jh hX (by simp [-atD_lt, -atL_lt]; rfl))) (k:=jf))) ?_)
          refine jd (fun h18 => ?_) (fun h18 => ?_)
          · try simp at h18
            have h18b : isAt t (p + 1) 86 = true := by rw [isAt_lt h18.1, ← atD_lt h18.1]; simpa using h18.2
            refine W_rseqK [0, 2, 3, 4] (jh hX (by simp [h1, h7, w0, h18]; rfl)) ?_
            refine W_reg (jh hX (by simp; (try (simp (disch := omega) only [wrap_i64]; (try simp))); rfl)) ?_
            refine W_seq (W_rseqK [2, 3, 4, 99] (jh hX (by simp [h1, h7, w0, h18]; rfl)) ?_)
            refine jd (fun h26 => ?_) (fun h26 => ?_)
            · try simp at h26
              refine W_rseqK [2] (jt 1 (k:=(jc [] (c:=(by apply ct_spec_l02Wrong <;> first | assumption | omega)) (a:=cb_spec_l02Wrong) (k:=(jh hX (by simp [h1, h7, w0, h18, h26]; rfl)))))) ?_
              refine W_ret (W_retR (by simp [h1, h7, w0, h18, h26]; rfl) ?_ rfl)
              first
                | (rw [show dTail t ps p = dErr (p + 2) from by simp only [dTail, h18b, if_true]; rw [if_pos (by omega)], show ((p : Int) + 1 + 1) = ((p + 2 : Nat) : Int) from by omega]; exact wk_err _ _ _)
                | (rw [show dTail t ps p = dErr (tyP t (p + 1)).1 from by simp only [dTail, h18b, h22, if_true]; simp; omega]; exact wk_err _ _ _)
            · try simp at h26
              refine W_skip (W_rseqK [2] (jh hX (by simp [h1, h7, w0, h18, h26]; rfl)) ?_)
              refine W_ret (W_retR (by simp [h1, h7, w0, h18, h26]; rfl) ?_ rfl)
              first
                | (rw [show dTail t ps p = ⟨ps, [86], 0, 0⟩ from by simp only [dTail, h18b, if_true]; rw [if_neg (by omega)]]; exact Wk.refl _)
                | (rw [show dTail t ps p = ⟨ps, seg t (p + 1) (tyP t (p + 1)).1, 0, 0⟩ from by simp only [dTail, h18b, h22]; simp; omega]; exact Wk.refl _)
          · try simp at h18
            have h18b : isAt t (p + 1) 86 = false := by
              rcases Nat.lt_or_ge (p + 1) t.length with h | h
              · rw [isAt_lt h, ← atD_lt h]; simpa using h18 h
              · exact isAt_ge h
            obtain ⟨hge, hle, hgt, _⟩ := tyP_le w0
            refine W_rseqK [0, 2, 3, 4, 7, 8] (jt 2 (k:=(jc [] (c:=(by apply ct_spec_l02Type <;> first | assumption | omega)) (a:=cb_spec_l02Type) (k:=jr)))) ?_
            refine W_seq (jq [0, 2, 3, 4, 7, 87] ?_)
            refine jd (fun h22 => ?_) (fun h22 => ?_)
            · try simp at h22
              refine W_rseqK [2] (jt 1 (k:=(jc [] (c:=(by apply ct_spec_l02Wrong <;> first | assumption | omega)) (a:=cb_spec_l02Wrong) (k:=(jh hX (by simp [h1, h7, w0, h18, hge, hle]; rfl)))))) ?_
              refine W_ret (W_retR (by simp [h1, h7, w0, h18, hge, hle]; rfl) ?_ rfl)
              rw [show dTail t ps p = dErr (tyP t (p + 1)).1 from by simp [dTail, h18b, h22]]
              exact wk_err _ _ _
            · try simp at h22
              refine W_skip (W_rseqK [0, 2, 3, 7] (jh hX (by simp [h1, h7, w0, h18, hge, hle]; rfl)) ?_)
              refine W_reg jr ?_
              refine W_seq (W_rseqK [2, 3, 4, 99] (jh hX (by simp [h1, h7, w0, h18, hge, hle]; rfl)) ?_)
              refine jd (fun h26 => ?_) (fun h26 => ?_)
              · try simp at h26
                refine W_rseqK [2] (jt 1 (k:=(jc [] (c:=(by apply ct_spec_l02Wrong <;> first | assumption | omega)) (a:=cb_spec_l02Wrong) (k:=(jh hX (by simp [h1, h7, w0, h18, hge, hle, h26]; rfl)))))) ?_
                refine W_ret (W_retR (by simp [h1, h7, w0, h18, hge, hle, h26]; rfl) ?_ rfl)
                first
                  | (rw [show dTail t ps p = dErr (p + 2) from by simp only [dTail, h18b, if_true]; rw [if_pos (by omega)], show ((p : Int) + 1 + 1) = ((p + 2 : Nat) : Int) from by omega]; exact wk_err _ _ _)
                  | (rw [show dTail t ps p = dErr (tyP t (p + 1)).1 from by simp only [dTail, h18b, h22, if_true]; simp; omega]; exact wk_err _ _ _)
              · try simp at h26
                refine W_skip (W_rseqK [2] (jh hX (by simp [h1, h7, w0, h18, hge, hle, h26]; rfl)) ?_)
                refine W_ret (W_retR (by simp [h1, h7, w0, h18, hge, hle, h26]; rfl) ?_ rfl)
                first
                  | (rw [show dTail t ps p = ⟨ps, [86], 0, 0⟩ from by simp only [dTail, h18b, if_true]; rw [if_neg (by omega)]]; exact Wk.refl _)
                  | (rw [show dTail t ps p = ⟨ps, seg t (p + 1) (tyP t (p + 1)).1, 0, 0⟩ from by simp only [dTail, h18b, h22]; simp; omega]; exact Wk.refl _)
end Go.Proofs
namespace Go.Proofs
open Go Go.Ev


theorem cb_spec_l01Int : Callable Tryz.prog 227 := ⟨_, Tryz.func227, by kernel_rfl, by kernel_rfl⟩
theorem ct_spec_l01Int {n : Int} : Ct Tryz.prog 227 [.int .i64 n] [] (.bool (decide (-2147483648 ≤ n ∧ n ≤ 2147483647))) [] := by
  refine Ct_bodyS tok Tryz.func227 rfl 9 (by kernel_rfl) (by kernel_rfl) fun X hX => ?_
  refine jq [0] ?_
  refine W_rseqK [2] (jt 3 (k:=(jm 3 5 [8] (p:=fun b1_3 => by (try simp at b1_3); exact (jh hX (by simp [-atD_lt, -atL_lt]; rfl))) (q:=fun b1_3 => by (try simp at b1_3); exact (jh hX (by simp [-atD_lt, -atL_lt]; rfl))) (k:=jr)))) ?_
  refine W_ret (je0 ?_)
  (try simp_all) <;> grind
end Go.Proofs
namespace Go.Proofs
open Go Go.Ev


theorem cb_spec_l03Ops : Callable Tryz.prog 252 := ⟨_, Tryz.func252, by kernel_rfl, by kernel_rfl⟩
theorem ct_spec_l03Ops  : Ct Tryz.prog 252 [] [] (.lst true 1 (opsL.map V.str)) [] := by
  refine Ct_bodyS tok Tryz.func252 rfl 2 (by kernel_rfl) (by kernel_rfl) fun X hX => ?_
  refine jq [] ?_
  refine jq [0] ?_
  refine W_ret (je0 ?_)
  rfl
end Go.Proofs
namespace Go.Proofs
open Go Go.Ev


theorem cb_spec_l01Split : Callable Tryz.prog 253 := ⟨_, Tryz.func253, by kernel_rfl, by kernel_rfl⟩
theorem ct_spec_l01Split {t : Str} {c : UInt8} (ht : t.length ≤ 1048576) : Ct Tryz.prog 253 [.str t, .int .u8 c.toNat] [] (.lst true 1 ((splitL c t).map V.str)) [] := by
  refine Ct_bodyS tok Tryz.func253 rfl 35 (by kernel_rfl) (by kernel_rfl) fun X hX => ?_
  refine jq [0, 1] ?_
  refine jq [0, 1, 5] ?_
  refine jq [0, 1, 5, 6] ?_
  refine W_seq (jq [0, 1, 5, 6, 7] ?_)
  refine W_block (W_loopU (α := List Str × Nat × Nat) [0, 1, 5, 6, 7] (fun a => [(5, .arr 0 0 a.1.length), (6, .int .i64 a.2.1), (7, .int .i64 a.2.2)]) (fun a => [(0, some (1, a.1.map V.str))]) (fun a => a.2.1 ≤ a.2.2 ∧ a.2.2 ≤ t.length ∧ a.1.length ≤ a.2.2 ∧ (∀ x ∈ (t.drop a.2.1).take (a.2.2 - a.2.1), x ≠ c) ∧ a.1 ++ splitL c (t.drop a.2.1) = splitL c t) (fun a => t.length - a.2.2) (([], 0, 0)) (fun a => by simp; rfl) (by simp) ?_ ?_)
  · simp
  rintro ⟨ps, f, i⟩ ⟨hf, hi, hp, hn, hI⟩
  simp only at hf hi hp hn hI
  have w1 : (ps.length + 1) * 16 ≤ 140737488355328 := by omega
  have w2 : ps.length ≤ 1099511627775 := by omega
  refine W_seq (W_rseqK [0, 1, 5, 6, 7, 12] (jh hX (by simp [w1, w2, hf, hi]; rfl)) ?_)
  refine jd (fun h4 => ?_) (fun h4 => ?_)
  · try simp at h4
    have hdi : i - f < (t.drop f).length := by simp; omega
    have hde : (t.drop f)[i - f] = t[i] := by simp [Nat.add_sub_cancel' hf]
    refine W_skip (W_seq (W_block (W_rseqK [0, 1, 5, 6, 7, 19] (jh hX (by simp [w1, w2, hf, hi, h4]; rfl)) ?_)))
    refine jd (fun h6 => ?_) (fun h6 => ?_)
    · try simp at h6
      have hs := splitL_hit hdi hn (by rw [hde]; exact UInt8.toNat_inj.1 h6)
      rw [List.drop_drop, show f + (i - f + 1) = i + 1 from by omega] at hs
      have hI2 : (ps ++ [seg t f i]) ++ splitL c (t.drop (i + 1)) = splitL c t := by rw [← hI, hs, seg, List.drop_take]; simp
      refine W_rseqK [0, 1, 5, 7] (jh hX (by simp [w1, w2, hf, hi, h4]; rfl)) ?_
      refine W_reg (jh hX (by simp; (try (simp (disch := omega) only [wrap_i64]; (try simp))); rfl)) ?_
      refine W_reg (jh hX (by simp; (try (simp (disch := omega) only [wrap_i64]; (try simp))); rfl)) ?_
      refine round_endT (if t[i].toNat = c.toNat then (ps ++ [seg t f i], i + 1, i + 1) else (ps, f, i + 1)) [0, 1, 5, 6, 7] 1 (by simp [hX]) (by simp) (by simp [h4, h6, seg]; try (simp (disch := omega) only [wrap_i64])) ?_ ?_
      · first
        | (rw [if_pos h6]; exact ⟨Nat.le_refl _, h4, by simp; omega, by simp, hI2⟩)
        | (rw [if_neg h6]; exact ⟨by simp; omega, h4, by simp; omega, hn2, hI⟩)
      · first | (rw [if_pos h6]; simp; omega) | (rw [if_neg h6]; simp; omega)
    · try simp at h6
      have h6c : t[i] ≠ c := fun e => h6 (by rw [e])
      have hn2 : ∀ x ∈ (t.drop f).take (i + 1 - f), x ≠ c := by
        rw [show i + 1 - f = (i - f) + 1 from by omega, List.take_succ_eq_append_getElem hdi, hde]
        intro x hx
        rcases List.mem_append.1 hx with hx | hx
        · exact hn x hx
        · simp at hx; rw [hx]; exact h6c
      refine W_skip (W_reg (jh hX (by simp; (try (simp (disch := omega) only [wrap_i64]; (try simp))); rfl)) ?_)
      refine round_endT (if t[i].toNat = c.toNat then (ps ++ [seg t f i], i + 1, i + 1) else (ps, f, i + 1)) [0, 1, 5, 6, 7] 1 (by simp [hX]) (by simp) (by simp [h4, h6, seg]; try (simp (disch := omega) only [wrap_i64])) ?_ ?_
      · first
        | (rw [if_pos h6]; exact ⟨Nat.le_refl _, h4, by simp; omega, by simp, hI2⟩)
        | (rw [if_neg h6]; exact ⟨by simp; omega, h4, by simp; omega, hn2, hI⟩)
      · first | (rw [if_pos h6]; simp; omega) | (rw [if_neg h6]; simp; omega)
  · try simp at h4
    have hfl : f ≤ t.length := by omega
    refine W_exit (W_rseqK [4] (jh hX (by simp [w1, w2, hf, hi, h4, hfl]; rfl)) ?_)
    refine W_ret (W_retR (by simp [w1, w2, hf, hi, h4, hfl]; rfl) ?_ rfl)
    have hil : i = t.length := by omega
    subst hil
    rw [splitL_no (by rw [List.take_of_length_le (by simp)] at hn; exact hn)] at hI
    rw [← hI]
    simp
    exact Wk.refl _
end Go.Proofs
namespace Go.Proofs
open Go Go.Ev


theorem cb_spec_OpForm : Callable Tryz.prog 239 := ⟨_, Tryz.func239, by kernel_rfl, by kernel_rfl⟩
theorem ct_spec_OpForm {op : Int} : Ct Tryz.prog 239 [.int .i64 op] [] (.str (opForm op)) [] := by
  have hol : opsL.length = 45 := rfl
  refine Ct_bodyS tok Tryz.func239 rfl 25 (by kernel_rfl) (by kernel_rfl) fun X hX => ?_
  refine jq [0] ?_
  refine W_rseqK [0, 3] (jF (c:=(by apply ct_spec_l03Ops <;> first | assumption | omega | (simp at *; omega) | simp_all)) (a:=cb_spec_l03Ops) (k:=jr)) ?_
  refine W_seq (W_rseqK [0, 3, 13] (jt 3 (k:=(jm 5 8 [0, 3, 13] (p:=fun b2_3 => by (try simp at b2_3); exact (jh hX (by simp [-atD_lt, -atL_lt]; rfl))) (q:=fun b2_3 => by (try simp at b2_3); exact (jh hX (by simp [-atD_lt, -atL_lt, b2_3]; rfl))) (k:=jf)))) ?_)
  refine jd (fun h2 => ?_) (fun h2 => ?_)
  · try simp at h2
    have hx : opForm op = [33] := by simp only [opForm]; rw [if_pos (by simp [hol] at h2; omega)]
    refine jq [2] ?_
    refine W_ret (je (by simp [h2]; rfl) ?_)
    simp_all [formOf]
  · try simp at h2
    simp only [hol] at h2
    obtain ⟨k, rfl⟩ : ∃ k : Nat, op = (k : Int) := ⟨op.toNat, by omega⟩
    have hk : k < opsL.length := by rw [hol]; omega
    have hf := formOf_ops ⟨k, by omega⟩ (by simp; omega)
    have hl : opsL[k].length ≤ 1048576 := Nat.le_trans (ops_short ⟨k, by omega⟩) (by decide)
    have hof : opForm k = formL.getD (k - 1) [] := by simp only [opForm]; rw [if_neg (by omega)]; congr 1; omega
    have hge : opsL.getD k [] = opsL[k] := by simp [hk]
    simp only [hge] at hf
    rw [hof, ← hf]
    clear hf hof hge
    refine W_skip (W_rseqK [4] (js hX 4 (by simp [h2, hk]; rfl) (jF (c:=(by apply (ct_spec_l01Split (c := 32)) <;> first | assumption | omega | (simp at *; omega) | simp_all)) (a:=cb_spec_l01Split) (k:=jr))) ?_)
    refine W_seq (W_rseqK [4, 21] (jh hX (by simp [h2, hk]; rfl)) ?_)
    refine jd (fun h5 => ?_) (fun h5 => ?_)
    · try simp at h5
      skip
      refine W_rseqK [2] (jh hX (by simp [h2, hk, h5]; rfl)) ?_
      refine W_ret (je (by simp [h2, hk, h5]; rfl) ?_)
      simp_all [formOf]
    · try simp at h5
      refine W_skip (jq [2] ?_)
      refine W_ret (je (by simp [h2, hk]; rfl) ?_)
      simp_all [formOf]
end Go.Proofs
namespace Go.Proofs
open Go Go.Ev


theorem cb_spec_l03Empty : Callable Tryz.prog 251 := ⟨_, Tryz.func251, by kernel_rfl, by kernel_rfl⟩
theorem ct_spec_l03Empty {x : Ins} : Ct Tryz.prog 251 [eI x] [] (.bool (decide (x.cls = [] ∧ x.name = [] ∧ x.desc = []))) [] := by
  refine Ct_bodyS tok Tryz.func251 rfl 16 (by kernel_rfl) (by kernel_rfl) fun X hX => ?_
  refine jq [1] ?_
  refine W_rseqK [2] (jt 4 (k:=(jm 4 6 [1, 10] (p:=fun b1_4 => by (try simp at b1_4); exact (jh hX (by simp [-atD_lt, -atL_lt]; rfl))) (q:=fun b1_4 => by (try simp at b1_4); exact (jh hX (by simp [-atD_lt, -atL_lt]; rfl))) (k:=(jt 1 (k:=(jm 4 11 [15] (p:=fun b1_9 => by (try simp at b1_9); exact (jh hX (by simp [-atD_lt, -atL_lt]; rfl))) (q:=fun b1_9 => by (try simp at b1_9); exact (jh hX (by simp [-atD_lt, -atL_lt]; rfl))) (k:=jr)))))))) ?_
  refine W_ret (je0 ?_)
  (try simp_all) <;> grind
end Go.Proofs
namespace Go.Proofs
open Go Go.Ev


theorem cb_spec_InsRight : Callable Tryz.prog 238 := ⟨_, Tryz.func238, by kernel_rfl, by kernel_rfl⟩
theorem ct_spec_InsRight {x : Ins} (h : sizeI x ≤ 1099511627776) : Ct Tryz.prog 238 [eI x] [] (.bool (insRight x)) [] := by
  simp only [sizeI] at h
  refine Ct_bodyS tok Tryz.func238 rfl 145 (by kernel_rfl) (by kernel_rfl) fun X hX => ?_
  refine jq [1] ?_
  refine W_seq (W_rseqK [1, 5] (jt 2 (k:=(jc [] (c:=(by apply ct_spec_OpForm <;> first | assumption | omega | (simp at *; omega) | simp_all)) (a:=cb_spec_OpForm) (k:=jf)))) ?_)
  refine W_block (jq [1, 5, 6] ?_)
  refine jd (fun h2 => ?_) (fun h2 => ?_)
  · try simp at h2
    refine W_rseqK [2] (jt 4 (k:=(jm 3 11 [14] (p:=fun b3_4 => by (try simp at b3_4); exact (js hX 1 (by simp [-atD_lt, -atL_lt]; rfl) (Runs.call [] rfl (by simp) rfl (by simp [-atD_lt, -atL_lt]; rfl) (by simp; rfl) (by apply ct_spec_l03Empty <;> first | assumption | omega | (simp at *; omega) | simp_all) cb_spec_l03Empty (by simp) (by simp) (by simp [-atD_lt, -atL_lt]; rfl) (jh hX (by simp [-atD_lt, -atL_lt]; rfl))))) (q:=fun b3_4 => by (try simp at b3_4); exact (jh hX (by simp [-atD_lt, -atL_lt]; rfl))) (k:=jr)))) ?_
    refine W_ret (je0 ?_)
    (try simp_all [insRight, insEmpty, isInt, init]) <;> grind
  · try simp at h2
    refine jq [1, 5, 15] ?_
    refine jd (fun h4 => ?_) (fun h4 => ?_)
    · try simp at h4
      refine W_rseqK [2] (jt 2 (k:=(jc [] (c:=(by apply ct_spec_l01Int <;> first | assumption | omega | (simp at *; omega) | simp_all)) (a:=cb_spec_l01Int) (k:=(jt 1 (k:=(jm 3 20 [23] (p:=fun b5_4 => by (try simp at b5_4); exact (js hX 1 (by simp [-atD_lt, -atL_lt]; rfl) (Runs.call [] rfl (by simp) rfl (by simp [-atD_lt, -atL_lt]; rfl) (by simp; rfl) (by apply ct_spec_l03Empty <;> first | assumption | omega | (simp at *; omega) | simp_all) cb_spec_l03Empty (by simp) (by simp) (by simp [-atD_lt, -atL_lt]; rfl) (jh hX (by simp [-atD_lt, -atL_lt]; rfl))))) (q:=fun b5_4 => by (try simp at b5_4); exact (jh hX (by simp [-atD_lt, -atL_lt]; rfl))) (k:=jr)))))))) ?_
      refine W_ret (je0 ?_)
      (try simp_all [insRight, insEmpty, isInt, init]) <;> grind
    · try simp at h4
      refine jq [1, 5, 24] ?_
      refine jd (fun h6 => ?_) (fun h6 => ?_)
      · try simp at h6
        refine W_rseqK [2] (jt 4 (k:=(jm 4 29 [1, 33] (p:=fun b7_4 => by (try simp at b7_4); exact (jh hX (by simp [-atD_lt, -atL_lt, b7_4]; rfl))) (q:=fun b7_4 => by (try simp at b7_4); exact (jh hX (by simp [-atD_lt, -atL_lt]; rfl))) (k:=(jt 1 (k:=(jm 3 34 [37] (p:=fun b7_9 => by (try simp at b7_9); exact (js hX 1 (by simp [-atD_lt, -atL_lt, b7_9]; rfl) (Runs.call [] rfl (by simp) rfl (by simp [-atD_lt, -atL_lt]; rfl) (by simp; rfl) (by apply ct_spec_l03Empty <;> first | assumption | omega | (simp at *; omega) | simp_all) cb_spec_l03Empty (by simp) (by simp) (by simp [-atD_lt, -atL_lt]; rfl) (jh hX (by simp [-atD_lt, -atL_lt]; rfl))))) (q:=fun b7_9 => by (try simp at b7_9); exact (jh hX (by simp [-atD_lt, -atL_lt]; rfl))) (k:=jr)))))))) ?_
        refine W_ret (je0 ?_)
        (try simp_all [insRight, insEmpty, isInt, init]) <;> grind
      · try simp at h6
        refine jq [1, 5, 38] ?_
        refine jd (fun h8 => ?_) (fun h8 => ?_)
        · try simp at h8
          refine W_rseqK [2] (jt 4 (k:=(jm 4 43 [1, 47] (p:=fun b9_4 => by (try simp at b9_4); exact (jh hX (by simp [-atD_lt, -atL_lt, b9_4]; rfl))) (q:=fun b9_4 => by (try simp at b9_4); exact (jh hX (by simp [-atD_lt, -atL_lt]; rfl))) (k:=(jt 1 (k:=(jm 3 48 [51] (p:=fun b9_9 => by (try simp at b9_9); exact (js hX 1 (by simp [-atD_lt, -atL_lt, b9_9]; rfl) (Runs.call [] rfl (by simp) rfl (by simp [-atD_lt, -atL_lt]; rfl) (by simp; rfl) (by apply ct_spec_l03Empty <;> first | assumption | omega | (simp at *; omega) | simp_all) cb_spec_l03Empty (by simp) (by simp) (by simp [-atD_lt, -atL_lt]; rfl) (jh hX (by simp [-atD_lt, -atL_lt]; rfl))))) (q:=fun b9_9 => by (try simp at b9_9); exact (jh hX (by simp [-atD_lt, -atL_lt]; rfl))) (k:=jr)))))))) ?_
          refine W_ret (je0 ?_)
          (try simp_all [insRight, insEmpty, isInt, init]) <;> grind
        · try simp at h8
          refine jq [1, 5, 52] ?_
          refine jd (fun h10 => ?_) (fun h10 => ?_)
          · try simp at h10
            refine W_rseqK [2] (jt 4 (k:=(jm 4 57 [1, 61] (p:=fun b11_4 => by (try simp at b11_4); exact (js hX 2 (by simp [-atD_lt, -atL_lt]; rfl) (Runs.call [] rfl (by simp) rfl (by simp [-atD_lt, -atL_lt]; rfl) (by simp; rfl) (by apply ct_spec_NameRight <;> first | assumption | omega | (simp at *; omega) | simp_all) cb_spec_NameRight (by simp) (by simp) (by simp [-atD_lt, -atL_lt]; rfl) (jh hX (by simp [-atD_lt, -atL_lt]; rfl))))) (q:=fun b11_4 => by (try simp at b11_4); exact (jh hX (by simp [-atD_lt, -atL_lt]; rfl))) (k:=(jt 1 (k:=(jm 4 62 [1, 66] (p:=fun b11_9 => by (try simp at b11_9); exact (jh hX (by simp [-atD_lt, -atL_lt]; rfl))) (q:=fun b11_9 => by (try simp at b11_9); exact (jh hX (by simp [-atD_lt, -atL_lt]; rfl))) (k:=(jt 1 (k:=(jm 4 67 [71] (p:=fun b11_14 => by (try simp at b11_14); exact (jh hX (by simp [-atD_lt, -atL_lt]; rfl))) (q:=fun b11_14 => by (try simp at b11_14); exact (jh hX (by simp [-atD_lt, -atL_lt]; rfl))) (k:=jr)))))))))))) ?_
            refine W_ret (je0 ?_)
            (try simp_all [insRight, insEmpty, isInt, init]) <;> grind
          · try simp at h10
            refine jq [1, 5, 72] ?_
            refine jd (fun h12 => ?_) (fun h12 => ?_)
            · try simp at h12
              refine W_rseqK [2] (jt 4 (k:=(jm 4 77 [1, 81] (p:=fun b13_4 => by (try simp at b13_4); exact (jh hX (by simp [-atD_lt, -atL_lt]; rfl))) (q:=fun b13_4 => by (try simp at b13_4); exact (jh hX (by simp [-atD_lt, -atL_lt]; rfl))) (k:=(jt 1 (k:=(jm 4 82 [1, 86] (p:=fun b13_9 => by (try simp at b13_9); exact (jh hX (by simp [-atD_lt, -atL_lt]; rfl))) (q:=fun b13_9 => by (try simp at b13_9); exact (jh hX (by simp [-atD_lt, -atL_lt]; rfl))) (k:=(jt 1 (k:=(jm 4 87 [1, 91] (p:=fun b13_14 => by (try simp at b13_14); exact (js hX 2 (by simp [-atD_lt, -atL_lt]; rfl) (Runs.call [] rfl (by simp) rfl (by simp [-atD_lt, -atL_lt]; rfl) (by simp; rfl) (by apply ct_spec_TypeRight <;> first | assumption | omega | (simp at *; omega) | simp_all) cb_spec_TypeRight (by simp) (by simp) (by simp [-atD_lt, -atL_lt]; rfl) (jh hX (by simp [-atD_lt, -atL_lt]; rfl))))) (q:=fun b13_14 => by (try simp at b13_14); exact (jh hX (by simp [-atD_lt, -atL_lt]; rfl))) (k:=(jt 1 (k:=(jm 5 92 [97] (p:=fun b13_19 => by (try simp at b13_19); (have hlt := (len_of_typeRight b13_19.2).1; have hat := isAt_lt (n := 91) hlt); exact (jh hX (by simp [-atD_lt, -atL_lt, hlt]; rfl))) (q:=fun b13_19 => by (try simp at b13_19); exact (jh hX (by simp [-atD_lt, -atL_lt]; rfl))) (k:=jr)))))))))))))))) ?_
              refine W_ret (je0 ?_)
              by_cases hd : typeRight x.desc = true
              · have hlt := (len_of_typeRight hd).1
                have hat := isAt_lt (n := 91) hlt
                have had := atD_lt hlt
                (try simp_all [insRight, insEmpty]) <;> grind
              · (try simp_all [insRight, insEmpty]) <;> grind
            · try simp at h12
              refine jq [1, 5, 98] ?_
              refine jd (fun h14 => ?_) (fun h14 => ?_)
              · try simp at h14
                refine W_rseqK [2] (jt 4 (k:=(jm 4 103 [1, 107] (p:=fun b15_4 => by (try simp at b15_4); exact (js hX 2 (by simp [-atD_lt, -atL_lt]; rfl) (Runs.call [] rfl (by simp) rfl (by simp [-atD_lt, -atL_lt]; rfl) (by simp; rfl) (by apply ct_spec_NameRight <;> first | assumption | omega | (simp at *; omega) | simp_all) cb_spec_NameRight (by simp) (by simp) (by simp [-atD_lt, -atL_lt]; rfl) (jh hX (by simp [-atD_lt, -atL_lt]; rfl))))) (q:=fun b15_4 => by (try simp at b15_4); exact (jh hX (by simp [-atD_lt, -atL_lt]; rfl))) (k:=(jt 1 (k:=(jm 4 108 [1, 112] (p:=fun b15_9 => by (try simp at b15_9); exact (js hX 2 (by simp [-atD_lt, -atL_lt]; rfl) (Runs.call [] rfl (by simp) rfl (by simp [-atD_lt, -atL_lt]; rfl) (by simp; rfl) (by apply ct_spec_NameRight <;> first | assumption | omega | (simp at *; omega) | simp_all) cb_spec_NameRight (by simp) (by simp) (by simp [-atD_lt, -atL_lt]; rfl) (jh hX (by simp [-atD_lt, -atL_lt]; rfl))))) (q:=fun b15_9 => by (try simp at b15_9); exact (jh hX (by simp [-atD_lt, -atL_lt]; rfl))) (k:=(jt 1 (k:=(jm 4 113 [117] (p:=fun b15_14 => by (try simp at b15_14); exact (js hX 2 (by simp [-atD_lt, -atL_lt]; rfl) (Runs.call [] rfl (by simp) rfl (by simp [-atD_lt, -atL_lt]; rfl) (by simp; rfl) (by apply ct_spec_TypeRight <;> first | assumption | omega | (simp at *; omega) | simp_all) cb_spec_TypeRight (by simp) (by simp) (by simp [-atD_lt, -atL_lt]; rfl) (jh hX (by simp [-atD_lt, -atL_lt]; rfl))))) (q:=fun b15_14 => by (try simp at b15_14); exact (jh hX (by simp [-atD_lt, -atL_lt]; rfl))) (k:=jr)))))))))))) ?_
                refine W_ret (je0 ?_)
                (try simp_all [insRight, insEmpty, isInt, init]) <;> grind
              · try simp at h14
                refine jq [1, 118] ?_
                refine jd (fun h16 => ?_) (fun h16 => ?_)
                · try simp at h16
                  refine W_rseqK [2] (jt 4 (k:=(jm 4 123 [1, 127] (p:=fun b17_4 => by (try simp at b17_4); exact (js hX 2 (by simp [-atD_lt, -atL_lt]; rfl) (Runs.call [] rfl (by simp) rfl (by simp [-atD_lt, -atL_lt]; rfl) (by simp; rfl) (by apply ct_spec_NameRight <;> first | assumption | omega | (simp at *; omega) | simp_all) cb_spec_NameRight (by simp) (by simp) (by simp [-atD_lt, -atL_lt]; rfl) (jh hX (by simp [-atD_lt, -atL_lt]; rfl))))) (q:=fun b17_4 => by (try simp at b17_4); exact (jh hX (by simp [-atD_lt, -atL_lt]; rfl))) (k:=(jt 1 (k:=(jm 9 128 [1, 137] (p:=fun b17_9 => by (try simp at b17_9); exact (js hX 2 (by simp [-atD_lt, -atL_lt]; rfl) (Runs.call [] rfl (by simp) rfl (by simp [-atD_lt, -atL_lt]; rfl) (by simp; rfl) (by apply ct_spec_NameRight <;> first | assumption | omega | (simp at *; omega) | simp_all) cb_spec_NameRight (by simp) (by simp) (by simp [-atD_lt, -atL_lt]; rfl) (js hX 1 (by simp [-atD_lt, -atL_lt]; rfl) (jm 4 132 [1, 128, 136] (p:=fun b17_13 => by (try simp at b17_13); exact (jh hX (by simp [-atD_lt, -atL_lt]; rfl))) (q:=fun b17_13 => by (try simp at b17_13); exact (jh hX (by simp [-atD_lt, -atL_lt]; rfl))) (k:=(jh hX (by simp [-atD_lt, -atL_lt]; rfl)))))))) (q:=fun b17_9 => by (try simp at b17_9); exact (jh hX (by simp [-atD_lt, -atL_lt]; rfl))) (k:=(jt 1 (k:=(jm 6 138 [144] (p:=fun b17_19 => by (try simp at b17_19); exact (js hX 2 (by simp [-atD_lt, -atL_lt]; rfl) (Runs.callF rfl (by simp) rfl (by simp [-atD_lt, -atL_lt]; rfl) (by apply ct_spec_DescRead <;> first | assumption | omega | (simp at *; omega) | simp_all) cb_spec_DescRead (by simp [-atD_lt, -atL_lt]; rfl) (jh hX (by simp [-atD_lt, -atL_lt]; rfl))))) (q:=fun b17_19 => by (try simp at b17_19); exact (jh hX (by simp [-atD_lt, -atL_lt]; rfl))) (k:=jr)))))))))))) ?_
                  refine W_ret (je0 ?_)
                  (try simp_all [insRight, insEmpty, isInt, init]) <;> grind
                · try simp at h16
                  refine W_skip (jq [2] ?_)
                  refine W_ret (je0 ?_)
                  (try simp_all [insRight, insEmpty, isInt, init]) <;> grind
end Go.Proofs
namespace Go.Proofs
open Go Go.Ev


theorem cb_spec_l03Handler : Callable Tryz.prog 240 := ⟨_, Tryz.func240, by kernel_rfl, by kernel_rfl⟩
theorem ct_spec_l03Handler {x : Hdl} {n : Int} (h : x.cls.length ≤ 1099511627776) : Ct Tryz.prog 240 [eH x, .int .i64 n] [] (.bool (hdlRight n x)) [] := by
  refine Ct_bodyS tok Tryz.func240 rfl 37 (by kernel_rfl) (by kernel_rfl) fun X hX => ?_
  refine jq [1, 2] ?_
  refine W_rseqK [4] (jt 4 (k:=(jm 6 8 [1, 2, 14] (p:=fun b1_4 => by (try simp at b1_4); exact (jh hX (by simp [-atD_lt, -atL_lt, b1_4]; rfl))) (q:=fun b1_4 => by (try simp at b1_4); exact (jh hX (by simp [-atD_lt, -atL_lt]; rfl))) (k:=(jt 1 (k:=(jm 5 15 [1, 2, 20] (p:=fun b1_11 => by (try simp at b1_11); exact (jh hX (by simp [-atD_lt, -atL_lt, b1_11]; rfl))) (q:=fun b1_11 => by (try simp at b1_11); exact (jh hX (by simp [-atD_lt, -atL_lt]; rfl))) (k:=(jt 1 (k:=(jm 4 21 [1, 2, 25] (p:=fun b1_17 => by (try simp at b1_17); exact (jh hX (by simp [-atD_lt, -atL_lt, b1_17]; rfl))) (q:=fun b1_17 => by (try simp at b1_17); exact (jh hX (by simp [-atD_lt, -atL_lt]; rfl))) (k:=(jt 1 (k:=(jm 5 26 [2, 31] (p:=fun b1_22 => by (try simp at b1_22); exact (jh hX (by simp [-atD_lt, -atL_lt, b1_22]; rfl))) (q:=fun b1_22 => by (try simp at b1_22); exact (jh hX (by simp [-atD_lt, -atL_lt]; rfl))) (k:=(jt 1 (k:=(jm 4 32 [36] (p:=fun b1_28 => by (try simp at b1_28); exact (js hX 2 (by simp [-atD_lt, -atL_lt, b1_28]; rfl) (Runs.call [] rfl (by simp) rfl (by simp [-atD_lt, -atL_lt]; rfl) (by simp; rfl) (by apply ct_spec_NameRight <;> first | assumption | omega | (simp at *; omega) | simp_all) cb_spec_NameRight (by simp) (by simp) (by simp [-atD_lt, -atL_lt]; rfl) (jh hX (by simp [-atD_lt, -atL_lt]; rfl))))) (q:=fun b1_28 => by (try simp at b1_28); exact (jh hX (by simp [-atD_lt, -atL_lt]; rfl))) (k:=jr)))))))))))))))))))) ?_
  refine W_ret (je0 ?_)
  (try simp_all [hdlRight]) <;> grind
end Go.Proofs
