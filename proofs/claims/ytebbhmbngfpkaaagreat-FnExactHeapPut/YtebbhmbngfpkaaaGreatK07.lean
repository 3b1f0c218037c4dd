/- Part 8 of what the proofs lean on: what the functions of the program and of the reference compute. Conditions: none. -/
import Derived.Test.YtebbhmbngfpkaaaGreatK06
set_option linter.all false
set_option linter.unusedVariables false
set_option linter.unusedSimpArgs false
set_option maxHeartbeats 2000000
set_option maxRecDepth 100000
namespace Go.Proofs
open Go Go.Ev

theorem rightI_eq (l : List Cls) : (decide (l.length ≤ 10) && decide ((chkI l).2 = 0)) = rightW l := by
  unfold rightW
  rw [← worldCheck_eq]
  by_cases h : 10 < l.length
  · have hc : chkI l = (10, 1) := by unfold chkI; rw [if_pos h]
    rw [hc, decide_eq_false (by omega), Bool.false_and]
    split <;> rfl
  · rw [if_neg (by omega), decide_eq_true (by omega), Bool.true_and]
theorem right_len {l : List Cls} (h : rightW l = true) : l.length ≤ 10 := by
  rw [← rightI_eq, Bool.and_eq_true, decide_eq_true_eq] at h; exact h.1
theorem right_all {l : List Cls} (h : rightW l = true) : (∀ k, k < l.length → pass1 l k = 0) ∧ (∀ k, k < l.length → pass2 l k = 0) ∧ (∀ k, k < l.length → pass3 l k = 0) ∧ (∀ k, k < l.length → pass4 l k = 0) ∧ ∀ k, k < l.length → pass5 l k = 0 := by
  have hlen := right_len h
  simp only [rightW, worldCheck, if_neg (show ¬ 400 < l.length from by omega), if_neg (show ¬ 10 < l.length from by omega), decide_eq_true_eq] at h
  have bad : ∀ (c : Nat → Int) (n i k : Nat) (v : Int), firstBad c n i = some (k, v) → v ≠ 0 := by
    intro c n
    induction n with
    | zero => intro i k v h; simp [firstBad] at h
    | succ n ih =>
      intro i k v h
      simp only [firstBad] at h
      split at h
      · exact ih _ _ _ h
      · cases h; assumption
  unfold checkAll at h
  cases h1 : firstBad (pass1 l) l.length 0 with
  | some p => rw [h1] at h; exact absurd h (bad _ _ _ p.1 p.2 h1)
  | none =>
    rw [h1] at h
    cases h2 : firstBad (pass2 l) l.length 0 with
    | some p => rw [h2] at h; exact absurd h (bad _ _ _ p.1 p.2 h2)
    | none =>
      rw [h2] at h
      cases h3 : firstBad (pass3 l) l.length 0 with
      | some p => rw [h3] at h; exact absurd h (bad _ _ _ p.1 p.2 h3)
      | none =>
        rw [h3] at h
        cases h4 : firstBad (pass4 l) l.length 0 with
        | some p => rw [h4] at h; exact absurd h (bad _ _ _ p.1 p.2 h4)
        | none =>
          rw [h4] at h
          cases h5 : firstBad (pass5 l) l.length 0 with
          | some p => rw [h5] at h; exact absurd h (bad _ _ _ p.1 p.2 h5)
          | none =>
            exact ⟨fun k hk => firstBad_none h1 k (by omega) (by omega), fun k hk => firstBad_none h2 k (by omega) (by omega), fun k hk => firstBad_none h3 k (by omega) (by omega), fun k hk => firstBad_none h4 k (by omega) (by omega), fun k hk => firstBad_none h5 k (by omega) (by omega)⟩
theorem right_P12 {l : List Cls} (h : rightW l = true) : P12 l := fun k hk => ⟨(right_all h).1 k hk, (right_all h).2.1 k hk⟩
theorem right_cyc {l : List Cls} (h : rightW l = true) : ∀ i, i < l.length → cyc l i = false := fun i hi => by
  have := (right_all h).2.2.2.1 i hi
  simp only [pass4] at this
  cases hc : cyc l i
  · rfl
  · rw [hc] at this; simp at this
theorem superI_eq {l : List Cls} (h : P12 l) (n : Str) : superI l n = superOf l n := by
  unfold superOf
  by_cases hb : 0 ≤ builtIx n
  · obtain ⟨hf, e⟩ := super_bIn (fun k hk => (h k hk).1) hb
    rw [e]
    rcases Int.lt_or_le 1 (builtIx n) with h1 | h1
    · have n1 : n ≠ sObject := fun e => by rw [e, bIx_obj.1] at h1; omega
      have n2 : n ≠ sError := fun e => by rw [e, bIx_obj.2.1] at h1; omega
      rw [if_neg n1, if_neg n2, if_neg (by omega), if_neg (by omega), if_pos h1]
    · rcases bIx_cases hb (by omega) with rfl | rfl
      · rw [if_pos rfl, if_pos bIx_obj.1]
      · rw [if_neg (by decide), if_pos rfl, if_neg (by rw [bIx_obj.2.1]; omega), if_pos bIx_obj.2.1]
  · rw [if_neg (by omega), if_neg (by omega), if_neg (by omega)]
    unfold superI
    by_cases hf : 0 ≤ findFrom n l 0
    · rw [if_pos hf, if_neg (by omega)]
      obtain ⟨i, hi, h1, _, h3, _⟩ := clsOf_found hf
      rw [h3, h1]; simp [atL_lt hi]
    · rw [if_neg hf, if_pos (.inl (by simp [bIn]; omega)), if_pos (by omega)]
theorem known_super {l : List Cls} (h : P12 l) {n : Str} (hk : isKnown l n = true) : superI l n = [] ∨ isKnown l (superI l n) = true := by
  simp only [isKnown, Bool.or_eq_true, decide_eq_true_eq] at hk
  by_cases hb : 0 ≤ builtIx n
  · rw [(super_bIn (fun k hk => (h k hk).1) hb).2]
    split
    · exact .inl rfl
    · split
      · exact .inr (known_bIn (by rw [bIx_obj.1]; omega))
      · exact .inr (known_bIn (by rw [bIx_obj.2.1]; omega))
  · obtain ⟨i, hi, e1, e2, e3⟩ := found_name (l := l) (n := n) (by omega)
    rw [e3]
    rcases (super_cls h hi).2 with ⟨_, e | e⟩ | ⟨j, hj, _, e⟩
    · rw [e]; exact .inr (known_bIn (by rw [bIx_obj.1]; omega))
    · rw [e]; exact .inr (known_bIn (by rw [bIx_obj.2.1]; omega))
    · rw [← e]; exact .inr (known_own hj)
theorem ups_ends {l : List Cls} : ∀ {f g : Nat} {k : Int}, Ends l f k → Ends l g k → ups l f k = ups l g k
  | 0, g, k, hf, _ => by rw [ups_neg hf, ups_neg hf]
  | f + 1, 0, k, _, hg => by rw [ups_neg hg, ups_neg hg]
  | f + 1, g + 1, k, hf, hg => by
    by_cases hk : k < 0
    · rw [ups_neg hk, ups_neg hk]
    · rw [ups_pos (by omega), ups_pos (by omega), ups_ends (hf.resolve_left hk) (hg.resolve_left hk)]
/-- how high a name stands -/
def rk (l : List Cls) (n : Str) : Nat := if bIn n then (if n = sObject then 0 else if n = sError then 1 else 2) else 3 + (ups l (l.length + 1) (findFrom n l 0)).length
theorem rk_lt {l : List Cls} (h : P12 l) (hc : ∀ i, i < l.length → cyc l i = false) {n : Str} (hk : isKnown l n = true) (hs : superI l n ≠ []) : rk l (superI l n) < rk l n := by
  have r0 : rk l sObject = 0 := by unfold rk; rw [if_pos (by simp [bIn, bIx_obj.1]), if_pos rfl]
  have r1 : rk l sError = 1 := by unfold rk; rw [if_pos (by simp [bIn, bIx_obj.2.1]), if_neg (by decide), if_pos rfl]
  by_cases hb : 0 ≤ builtIx n
  · have e := (super_bIn (fun k hk => (h k hk).1) hb).2
    rw [e] at hs ⊢
    have hbn : bIn n = true := by simp [bIn, hb]
    by_cases h1 : n = sObject
    · rw [if_pos h1] at hs; exact absurd rfl hs
    · rw [if_neg h1]
      by_cases h2 : n = sError
      · rw [if_pos h2, h2, r0, r1]; omega
      · rw [if_neg h2, r1]; unfold rk; rw [if_pos hbn, if_neg h1, if_neg h2]; omega
  · have hbn : bIn n = false := by simp [bIn]; omega
    simp only [isKnown, Bool.or_eq_true, decide_eq_true_eq] at hk
    obtain ⟨i, hi, e1, e2, e3⟩ := found_name (l := l) (n := n) (by omega)
    have hrn : rk l n = 3 + (ups l (l.length + 1) (i : Int)).length := by unfold rk; rw [if_neg (by simp [hbn]), e1]
    have hu : ups l (l.length + 1) (i : Int) = i :: ups l l.length (nxt l i) := ups_nat
    rw [hrn, hu, e3]
    have hE := ends_of_noCyc hc hi
    obtain ⟨g, hg, hE2⟩ := Ends_nat hE
    obtain rfl : g = l.length := by omega
    rcases (super_cls h hi).2 with ⟨_, e | e⟩ | ⟨j, hj, e4, e⟩
    · rw [e, r0]; omega
    · rw [e, r1]; simp only [List.length_cons]; omega
    · have hjb := name_not_bIn hj (h j hj).1
      have huq := uniq_of_pass1 hj (h j hj).1
      rw [← e]
      have : rk l l[j].name = 3 + (ups l (l.length + 1) (j : Int)).length := by unfold rk; rw [if_neg (by simp [bIn]; omega), huq]
      rw [this, e4]
      rw [e4] at hE2
      rw [ups_ends (ends_of_noCyc hc hj) hE2]
      simp
theorem chn_rk {l : List Cls} (h : P12 l) (hc : ∀ i, i < l.length → cyc l i = false) : ∀ (k : Nat) (n : Str) (o : List Str), rk l n ≤ k → (∀ x ∈ o, rk l n < rk l x) → chn l o n = o ++ chn l [] n
  | k, n, o, hk, ho => by
    by_cases hn : isKnown l n = true
    · have hout : out o n = false := by
        rw [Bool.eq_false_iff]; intro hc; have := ho n (out_iff.1 hc); omega
      rw [chn_go hn hout, chn_go hn (o := []) rfl]
      by_cases hs : superI l n = []
      · rw [hs, chn_stop (by rw [nil_unknown h]; simp), chn_stop (by rw [nil_unknown h]; simp)]; rfl
      · have hlt := rk_lt h hc hn hs
        cases k with
        | zero => omega
        | succ k =>
          rw [chn_rk h hc k (superI l n) (o ++ [n]) (by omega) (fun x hx => by
              rcases List.mem_append.1 hx with hx | hx
              · have := ho x hx; omega
              · rw [List.mem_singleton.1 hx]; exact hlt),
            chn_rk h hc k (superI l n) ([] ++ [n]) (by omega) (fun x hx => by
              rw [List.mem_singleton.1 hx]; exact hlt)]
          simp
    · rw [chn_stop (fun hc => hn hc.1), chn_stop (fun hc => hn hc.1)]; simp
theorem chain_rec {l : List Cls} (h : rightW l = true) {n : Str} (hn : isKnown l n = true) : chain l n = n :: chain l (superI l n) := by
  have hp := right_P12 h
  have hc := right_cyc h
  unfold chain
  rw [chn_go hn rfl]
  by_cases hs : superI l n = []
  · rw [hs, chn_stop (by rw [nil_unknown hp]; simp), chn_stop (by rw [nil_unknown hp]; simp)]; rfl
  · rw [chn_rk hp hc _ _ ([] ++ [n]) (Nat.le_refl _) (fun x hx => by rw [List.mem_singleton.1 hx]; exact rk_lt hp hc hn hs)]
    rfl
theorem chain_no {l : List Cls} {n : Str} (hn : isKnown l n = false) : chain l n = [] := by
  unfold chain; rw [chn_stop]; rw [hn]; simp
/-- the names up from a, as the reference goes -/
def chS (l : List Cls) (a : Str) : List Str := if isKnown l a = true then chain l a else if a = [] then [] else [a]
theorem chS_known {l : List Cls} {a : Str} (h : isKnown l a = true) : chS l a = chain l a := if_pos h
theorem chS_nil {l : List Cls} (h : rightW l = true) : chS l [] = [] := by unfold chS; rw [if_neg (by rw [nil_unknown (right_P12 h)]; simp), if_pos rfl]
theorem chS_go {l : List Cls} (h : rightW l = true) {a : Str} (ha : a ≠ []) : chS l a = a :: chS l (superOf l a) := by
  rw [← superI_eq (right_P12 h)]
  by_cases hk : isKnown l a = true
  · rw [chS_known hk, chain_rec h hk]
    rcases known_super (right_P12 h) hk with e | e
    · rw [e, chS_nil h, chain_no (nil_unknown (right_P12 h))]
    · rw [chS_known e]
  · have : superI l a = [] := by
      simp only [isKnown, Bool.or_eq_true, decide_eq_true_eq] at hk
      unfold superI; rw [if_neg (fun h => hk (.inr h)), if_pos (.inl (by simp [bIn]; omega))]
    rw [this, chS_nil h]; unfold chS; rw [if_neg hk, if_neg ha]
/-- is a the class b, or does it stand on it? -/
def subS (l : List Cls) (a b : Str) : Bool := out (chS l a) b
theorem subS_nil {l : List Cls} (h : rightW l = true) (b : Str) : subS l [] b = false := by unfold subS; rw [chS_nil h]; rfl
theorem subS_go {l : List Cls} (h : rightW l = true) {a b : Str} (ha : a ≠ []) : subS l a b = (decide (b = a) || subS l (superOf l a) b) := by
  unfold subS; rw [chS_go h ha]; rfl
def subW (l : List Cls) (a b : Str) : Bool := decide (a.length ≤ 20000) && (decide (b.length ≤ 20000) && (rightW l && (isKnown l a && (isKnown l b && subS l a b))))
theorem subW_of (l : List Cls) (a b : Str) : (rightW l && (decide (a.length ≤ 20000) && decide (b.length ≤ 20000)) && (isKnown l b && out (chain l a) b)) = subW l a b := by
  unfold subW subS
  cases hr : rightW l
  · simp
  · by_cases hk : isKnown l a = true
    · rw [chS_known hk, hk]
      cases decide (a.length ≤ 20000) <;> cases decide (b.length ≤ 20000) <;> cases isKnown l b <;> simp
    · rw [chain_no (by simpa using hk), Bool.eq_false_iff.2 hk]
      cases decide (a.length ≤ 20000) <;> cases decide (b.length ≤ 20000) <;> cases isKnown l b <;> simp [out]
theorem superOf_le {l : List Cls} {n : Str} : (superOf l n).length ≤ sizeL l + 6 := by
  unfold superOf
  split
  · simp
  · split
    · simp [sObject]
    · split
      · simp [sError]
      · split
        · simp
        · rename_i h
          have hlt := findFrom_lt (l := l) (n := n) (by omega)
          have := sizeL_at hlt
          rw [atL_lt hlt]; simp only [sizeC] at this; omega
end Go.Proofs
namespace Go.Proofs
open Go Go.Ev
/-- the fields of a class that are no static ones -/
def ownF (c : Cls) : List Fld := c.fields.filter fun f => !f.static
/-- the fields of the last k classes of a chain, the last first -/
def fldK (l : List Cls) (ch : List Str) : Nat → List Fld
  | 0 => []
  | k + 1 => fldK l ch k ++ ownF (clsOf l (ch.getD (ch.length - 1 - k) []))
def fldsI (l : List Cls) (n : Str) : List Fld := fldK l (chain l n) (chain l n).length
theorem filt_snoc {l : List Fld} {i : Nat} (h : i < l.length) : (l.take (i + 1)).filter (fun f => !f.static) = (l.take i).filter (fun f => !f.static) ++ (if l[i].static then [] else [l[i]]) := by
  rw [List.take_succ_eq_append_getElem h, List.filter_append]
  cases hs : l[i].static <;> simp [hs]
theorem fldK_len {l : List Cls} {ch : List Str} : ∀ k, (fldK l ch k).length ≤ k * sizeL l
  | 0 => by simp [fldK]
  | k + 1 => by
    have h1 := fldK_len (l := l) (ch := ch) k
    have h2 := clsOf_size (l := l) (n := ch.getD (ch.length - 1 - k) [])
    have h3 : (ownF (clsOf l (ch.getD (ch.length - 1 - k) []))).length ≤ (clsOf l (ch.getD (ch.length - 1 - k) [])).fields.length := List.length_filter_le _ _
    have h4 : (clsOf l (ch.getD (ch.length - 1 - k) [])).fields.length ≤ sizeC (clsOf l (ch.getD (ch.length - 1 - k) [])) := by unfold sizeC; omega
    rw [fldK, List.length_append, Nat.succ_mul]; omega
def fldsW (l : List Cls) (n : Str) : List Fld := if (decide (n.length ≤ 20000) && rightW l) = true then fldsI l n else []
end Go.Proofs
namespace Go.Proofs
open Go Go.Ev
/-- a type of the check -/
structure Typ where
  k : Int
  c : Str
  at' : Int
  deriving DecidableEq, Inhabited
def eT (x : Typ) : V := .agg [.int .i64 x.k, .str x.c, .int .i64 x.at']
def sizeT (x : Typ) : Nat := x.c.length
def bigT (x : Typ) : Prop := x.c.length < 4611686018427387904
@[simp] theorem pureL_eT (l : List Typ) : pureL (l.map eT) = true := pureL_map _ (fun _ => rfl) l
@[simp] theorem fzL_eT (l : List Typ) : fzL (l.map eT) = l.map eT := fzL_mapf _ (fun _ => rfl) l
@[simp] theorem jkL_eT (p : Nat → Bool) (l : List Typ) : jkL p (l.map eT) = l.map eT := jkL_mapf p _ (fun _ => rfl) l
attribute [simp] eT
def knownT (l : List Cls) (t : Typ) : Bool := if t.k = 3 ∨ t.k = 5 then isKnown l t.c && decide (t.at' = 0) else if t.k = 6 then isKnown l t.c && decide (0 ≤ t.at' ∧ t.at' ≤ 59) else decide (0 ≤ t.k ∧ t.k ≤ 7) && (decide (t.c = []) && decide (t.at' = 0))
def typeKnownW (l : List Cls) (t : Typ) : Bool := rightW l && knownT l t
end Go.Proofs
namespace Go.Proofs
open Go Go.Ev
def zT : Typ := ⟨0, [], 0⟩
def objT : Typ := ⟨3, sObject, 0⟩
def comI (l : List Cls) (a b : Str) : Str := ((chain l a).find? fun x => isKnown l x && out (chain l b) x).getD []
def comS (l : List Cls) (a b : Str) : Str := ((chS l a).find? fun x => subS l b x).getD []
def isObj (t : Typ) : Bool := decide (2 ≤ t.k ∧ t.k ≤ 5)
def leI (l : List Cls) (a b : Typ) : Bool :=
  if a = b ∨ b.k = 0 then true else if a.k = 2 then isObj b
  else if (a.k = 3 ∧ b.k = 3) ∨ (a.k = 5 ∧ b.k = 5) then isKnown l b.c && out (chain l a.c) b.c
  else decide (a.k = 4 ∨ a.k = 5) && decide (b = objT)
def lubI (l : List Cls) (a b : Typ) : Typ :=
  if a = b then a else if (!isObj a || !isObj b) = true then zT else if a.k = 2 then b else if b.k = 2 then a
  else if a.k = b.k then ⟨a.k, comI l a.c b.c, 0⟩ else objT
/-- is a below b? -/
def leT (l : List Cls) (a b : Typ) : Bool :=
  if a = b ∨ b.k = 0 then true else if a.k = 2 then decide (b.k = 3 ∨ b.k = 4 ∨ b.k = 5)
  else if (a.k = 3 ∧ b.k = 3) ∨ (a.k = 5 ∧ b.k = 5) then subS l a.c b.c
  else decide (a.k = 4 ∨ a.k = 5) && decide (b.k = 3) && decide (b.c = sObject)
/-- the least above both -/
def lubT (l : List Cls) (a b : Typ) : Typ :=
  if a = b then a else if a.k = 2 ∧ (b.k = 3 ∨ b.k = 4 ∨ b.k = 5) then b else if b.k = 2 ∧ (a.k = 3 ∨ a.k = 4 ∨ a.k = 5) then a
  else if a.k = b.k ∧ (a.k = 3 ∨ a.k = 5) then ⟨a.k, comS l a.c b.c, 0⟩
  else if (a.k = 3 ∨ a.k = 4 ∨ a.k = 5) ∧ (b.k = 3 ∨ b.k = 4 ∨ b.k = 5) then objT else zT
def leW (l : List Cls) (a b : Typ) : Bool := rightW l && knownT l a && (knownT l b && leT l a b)
def lubW (l : List Cls) (a b : Typ) : Typ := if (rightW l && knownT l a && knownT l b) = true then lubT l a b else zT
def comW (l : List Cls) (a b : Str) : Str := if (decide (a.length ≤ 20000) && decide (b.length ≤ 20000) && rightW l && (isKnown l a && isKnown l b)) = true then comS l a b else []

theorem right_of_known {l : List Cls} {t : Typ} (h : typeKnownW l t = true) : rightW l = true := by
  unfold typeKnownW at h; rw [Bool.and_eq_true] at h; exact h.1
theorem chain_known {l : List Cls} {a x : Str} : ∀ (k : Nat) (o : List Str) (n : Str), cMu l o ≤ k → (∀ y ∈ o, isKnown l y = true) → x ∈ chn l o n → isKnown l x = true
  | 0, o, n, hk, ho, hx => by
    rw [chn_stop] at hx
    · exact ho x hx
    · rintro ⟨h1, h2⟩; have := cMu_lt h1 h2; omega
  | k + 1, o, n, hk, ho, hx => by
    by_cases hc : isKnown l n = true ∧ out o n = false
    · rw [chn_go hc.1 hc.2] at hx
      refine chain_known (a := a) k (o ++ [n]) (superI l n) (by have := cMu_lt hc.1 hc.2; omega) (fun y hy => ?_) hx
      rcases List.mem_append.1 hy with hy | hy
      · exact ho y hy
      · rw [List.mem_singleton.1 hy]; exact hc.1
    · rw [chn_stop hc] at hx; exact ho x hx
theorem known_in {l : List Cls} {a x : Str} (h : x ∈ chain l a) : isKnown l x = true := chain_known (a := a) _ [] a (Nat.le_refl _) (fun y hy => by cases hy) h
theorem com_eq {l : List Cls} {a b : Str} (ha : isKnown l a = true) (hb : isKnown l b = true) : comI l a b = comS l a b := by
  unfold comI comS subS
  rw [chS_known ha, chS_known hb]
  congr 1
  have : ∀ (xs : List Str), (∀ x ∈ xs, isKnown l x = true) → xs.find? (fun x => isKnown l x && out (chain l b) x) = xs.find? (fun x => out (chain l b) x) := by
    intro xs
    induction xs with
    | nil => intro _; rfl
    | cons x xs ih => intro h; simp only [List.find?_cons]; rw [h x (by simp), Bool.true_and, ih (fun y hy => h y (by simp [hy]))]
  exact this _ (fun x hx => known_in hx)
theorem known3 {l : List Cls} {t : Typ} (h : knownT l t = true) (hk : t.k = 3 ∨ t.k = 5) : isKnown l t.c = true ∧ t.at' = 0 := by
  unfold knownT at h; rw [if_pos hk] at h; simpa using h
theorem knownP {l : List Cls} {t : Typ} (h : knownT l t = true) (h3 : ¬ (t.k = 3 ∨ t.k = 5)) (h6 : t.k ≠ 6) : t.c = [] ∧ t.at' = 0 ∧ 0 ≤ t.k ∧ t.k ≤ 7 := by
  unfold knownT at h; rw [if_neg h3, if_neg h6] at h; simp at h; exact ⟨h.2.1, h.2.2, h.1.1, h.1.2⟩
theorem typ_ext {a b : Typ} (h1 : a.k = b.k) (h2 : a.c = b.c) (h3 : a.at' = b.at') : a = b := by
  cases a; cases b; simp_all
theorem typ_same {l : List Cls} {a b : Typ} (ha : knownT l a = true) (hb : knownT l b = true) (e : a.k = b.k) (h3 : ¬ (a.k = 3 ∨ a.k = 5)) (h6 : a.k ≠ 6) : a = b := by
  have h1 := knownP ha h3 h6
  have h2 := knownP hb (by rw [← e]; exact h3) (by rw [← e]; exact h6)
  exact typ_ext e (by rw [h1.1, h2.1]) (by rw [h1.2.1, h2.2.1])
theorem le_eq {l : List Cls} {a b : Typ} (ha : knownT l a = true) (hb : knownT l b = true) : leI l a b = leT l a b := by
  unfold leI leT
  by_cases h1 : a = b ∨ b.k = 0
  · rw [if_pos h1, if_pos h1]
  · rw [if_neg h1, if_neg h1]
    by_cases h2 : a.k = 2
    · rw [if_pos h2, if_pos h2]
      have : b.k ≠ 2 := fun e => h1 (.inl (typ_same ha hb (by omega) (by omega) (by omega)))
      unfold isObj
      rw [Bool.eq_iff_iff]; simp; omega
    · rw [if_neg h2, if_neg h2]
      by_cases h3 : (a.k = 3 ∧ b.k = 3) ∨ (a.k = 5 ∧ b.k = 5)
      · rw [if_pos h3, if_pos h3]
        have ka := known3 ha (by omega)
        have kb := known3 hb (by omega)
        unfold subS
        rw [chS_known ka.1, kb.1, Bool.true_and]
      · rw [if_neg h3, if_neg h3, Bool.and_assoc]
        congr 1
        rw [Bool.eq_iff_iff]
        simp only [decide_eq_true_eq, Bool.and_eq_true]
        constructor
        · rintro rfl; exact ⟨rfl, rfl⟩
        · rintro ⟨e1, e2⟩; exact typ_ext e1 e2 (known3 hb (.inl e1)).2
theorem lub_eq {l : List Cls} {a b : Typ} (ha : knownT l a = true) (hb : knownT l b = true) : lubI l a b = lubT l a b := by
  unfold lubI lubT
  by_cases h1 : a = b
  · rw [if_pos h1, if_pos h1]
  · rw [if_neg h1, if_neg h1]
    have hs : a.k = b.k → (a.k = 3 ∨ a.k = 5) ∨ a.k = 6 := fun e => by
      by_cases h3 : a.k = 3 ∨ a.k = 5
      · exact .inl h3
      · exact .inr (Classical.byContradiction fun h6 => h1 (typ_same ha hb e h3 h6))
    simp only [isObj, Bool.or_eq_true, Bool.not_eq_true', decide_eq_false_iff_not]
    repeat' split
    all_goals first
      | rfl
      | omega
      | rw [com_eq (known3 ha (by omega)).1 (known3 hb (by omega)).1]
theorem leW_of (l : List Cls) (a b : Typ) : (rightW l && knownT l a && knownT l b && leI l a b) = leW l a b := by
  unfold leW
  by_cases h : knownT l a = true ∧ knownT l b = true
  · rw [le_eq h.1 h.2, h.1, h.2]; simp
  · cases h1 : knownT l a <;> cases h2 : knownT l b <;> simp_all
theorem find_drop {α : Type} {p : α → Bool} {xs : List α} {i : Nat} (h : i < xs.length) : (xs.drop i).find? p = if p xs[i] = true then some xs[i] else (xs.drop (i + 1)).find? p := by
  rw [List.drop_eq_getElem_cons h, List.find?_cons]; cases p xs[i] <;> rfl
theorem comS_nil {l : List Cls} (h : rightW l = true) (b : Str) : comS l [] b = [] := by unfold comS; rw [chS_nil h]; rfl
theorem comS_go {l : List Cls} (h : rightW l = true) {a b : Str} (ha : a ≠ []) : comS l a b = if subS l b a = true then a else comS l (superOf l a) b := by
  unfold comS; rw [chS_go h ha, List.find?_cons]; cases subS l b a <;> rfl
end Go.Proofs
namespace Go.Proofs
open Go Go.Ev
section
variable {l : List Cls}
theorem super_ne {n : Str} (h : P12 l) (hk : isKnown l n = true) (hn : n ≠ sObject) : superI l n ≠ [] := by
  intro e
  simp only [isKnown, Bool.or_eq_true, decide_eq_true_eq] at hk
  by_cases hb : 0 ≤ builtIx n
  · rw [(super_bIn (fun k hk => (h k hk).1) hb).2, if_neg hn] at e
    split at e <;> cases e
  · obtain ⟨i, hi, _, _, e3⟩ := found_name (l := l) (n := n) (by omega)
    rw [e3] at e
    rcases (super_cls h hi).2 with ⟨_, e2 | e2⟩ | ⟨j, hj, _, e2⟩
    · rw [e] at e2; cases e2
    · rw [e] at e2; cases e2
    · have := known_own (l := l) hj
      rw [e2, e, nil_unknown h] at this; cases this
theorem chain_ind (hw : rightW l = true) {P : Str → Prop} (h0 : P sObject) (h1 : ∀ n, isKnown l n = true → n ≠ sObject → isKnown l (superI l n) = true → P (superI l n) → P n) : ∀ n, isKnown l n = true → P n := by
  have key : ∀ (k : Nat) (n : Str), rk l n ≤ k → isKnown l n = true → P n := by
    intro k
    induction k with
    | zero =>
      intro n hk hn
      by_cases ho : n = sObject
      · rw [ho]; exact h0
      · have := rk_lt (right_P12 hw) (right_cyc hw) hn (super_ne (right_P12 hw) hn ho); omega
    | succ k ih =>
      intro n hk hn
      by_cases ho : n = sObject
      · rw [ho]; exact h0
      · have hs := super_ne (right_P12 hw) hn ho
        have := rk_lt (right_P12 hw) (right_cyc hw) hn hs
        have hks := (known_super (right_P12 hw) hn).resolve_left hs
        exact h1 n hn ho hks (ih _ (by omega) hks)
  exact fun n hn => key _ n (Nat.le_refl _) hn
theorem chain_obj (hw : rightW l = true) : chain l sObject = [sObject] := by
  unfold chain; rw [chn_obj (right_P12 hw) rfl]; rfl
theorem self_in {n : Str} (hw : rightW l = true) (hn : isKnown l n = true) : n ∈ chain l n := by rw [chain_rec hw hn]; simp
theorem obj_in (hw : rightW l = true) : ∀ n, isKnown l n = true → sObject ∈ chain l n :=
  chain_ind hw (by rw [chain_obj hw]; simp) fun n hn _ _ ih => by rw [chain_rec hw hn]; simp [ih]
theorem known_obj : isKnown l sObject = true := known_bIn (by rw [bIx_obj.1]; omega)
theorem in_trans (hw : rightW l = true) {x y : Str} : ∀ n, isKnown l n = true → x ∈ chain l n → y ∈ chain l x → y ∈ chain l n := by
  refine chain_ind hw ?_ ?_
  · intro hx hy
    rw [chain_obj hw] at hx
    rw [List.mem_singleton.1 hx] at hy; exact hy
  · intro n hn _ _ ih hx hy
    rw [chain_rec hw hn] at hx ⊢
    rcases List.mem_cons.1 hx with rfl | hx
    · rw [← chain_rec hw hn]; exact hy
    · exact List.mem_cons_of_mem _ (ih hx hy)
theorem in_rk (hw : rightW l = true) {x : Str} : ∀ n, isKnown l n = true → x ∈ chain l n → x = n ∨ rk l x < rk l n := by
  refine chain_ind hw ?_ ?_
  · intro hx; rw [chain_obj hw] at hx; exact .inl (List.mem_singleton.1 hx)
  · intro n hn ho hs ih hx
    rw [chain_rec hw hn] at hx
    rcases List.mem_cons.1 hx with rfl | hx
    · exact .inl rfl
    · have := rk_lt (right_P12 hw) (right_cyc hw) hn (super_ne (right_P12 hw) hn ho)
      rcases ih hx with rfl | h
      · exact .inr this
      · exact .inr (by omega)
theorem in_antisymm (hw : rightW l = true) {x y : Str} (hx : isKnown l x = true) (hy : isKnown l y = true) (h1 : x ∈ chain l y) (h2 : y ∈ chain l x) : x = y := by
  rcases in_rk hw y hy h1 with e | e
  · exact e
  · rcases in_rk hw x hx h2 with e2 | e2
    · exact e2.symm
    · omega
theorem sub_iff {a b : Str} (ha : isKnown l a = true) : subS l a b = true ↔ b ∈ chain l a := by
  unfold subS; rw [chS_known ha, out_iff]
/-- the first common one -/
theorem com_spec (hw : rightW l = true) {b : Str} (hb : isKnown l b = true) : ∀ a, isKnown l a = true →
    comS l a b ∈ chain l a ∧ comS l a b ∈ chain l b ∧ ∀ c, c ∈ chain l a → c ∈ chain l b → c ∈ chain l (comS l a b) := by
  have hgo : ∀ a, isKnown l a = true → comS l a b = if a ∈ chain l b then a else comS l (superI l a) b := by
    intro a ha
    have hne : a ≠ [] := fun e => by rw [e, nil_unknown (right_P12 hw)] at ha; cases ha
    rw [comS_go hw hne, superI_eq (right_P12 hw)]
    by_cases h : a ∈ chain l b
    · rw [if_pos h, if_pos ((sub_iff hb).2 h)]
    · rw [if_neg h, if_neg (fun e => h ((sub_iff hb).1 e))]
  refine chain_ind hw ?_ ?_
  · rw [hgo _ known_obj, if_pos (obj_in hw b hb)]
    exact ⟨self_in hw known_obj, obj_in hw b hb, fun c hc _ => hc⟩
  · intro n hn ho hs ih
    rw [hgo n hn]
    by_cases h : n ∈ chain l b
    · rw [if_pos h]; exact ⟨self_in hw hn, h, fun c hc _ => hc⟩
    · rw [if_neg h]
      refine ⟨?_, ih.2.1, fun c hc hcb => ?_⟩
      · rw [chain_rec hw hn]; exact List.mem_cons_of_mem _ ih.1
      · rw [chain_rec hw hn] at hc
        rcases List.mem_cons.1 hc with rfl | hc
        · exact absurd hcb h
        · exact ih.2.2 c hc hcb
theorem com_comm (hw : rightW l = true) {a b : Str} (ha : isKnown l a = true) (hb : isKnown l b = true) : comS l a b = comS l b a := by
  obtain ⟨a1, a2, a3⟩ := com_spec hw hb a ha
  obtain ⟨b1, b2, b3⟩ := com_spec hw ha b hb
  exact in_antisymm hw (known_in a1) (known_in b1) (b3 _ a2 a1) (a3 _ b2 b1)
theorem known_of3 {t : Typ} (hk : t.k = 3 ∨ t.k = 5) (h1 : isKnown l t.c = true) (h2 : t.at' = 0) : knownT l t = true := by
  unfold knownT; rw [if_pos hk]; simp [h1, h2]
theorem known_objT : knownT l objT = true := known_of3 (.inl rfl) known_obj rfl
theorem le_refl' (a : Typ) : leT l a a = true := by unfold leT; rw [if_pos (.inl rfl)]
/-- what it says that a is below b -/
theorem le_iff {a b : Typ} (ha : knownT l a = true) (_hb : knownT l b = true) : leT l a b = true ↔ a = b ∨ b.k = 0 ∨ (a.k = 2 ∧ (b.k = 3 ∨ b.k = 4 ∨ b.k = 5)) ∨ (((a.k = 3 ∧ b.k = 3) ∨ (a.k = 5 ∧ b.k = 5)) ∧ b.c ∈ chain l a.c) ∨
    ((a.k = 4 ∨ a.k = 5) ∧ b.k = 3 ∧ b.c = sObject) := by
  unfold leT
  by_cases h1 : a = b ∨ b.k = 0
  · rw [if_pos h1]; rcases h1 with h1 | h1 <;> simp [h1]
  · rw [if_neg h1]
    by_cases h2 : a.k = 2
    · rw [if_pos h2, decide_eq_true_eq]
      constructor
      · intro h; exact .inr (.inr (.inl ⟨h2, h⟩))
      · rintro (h | h | ⟨_, h⟩ | ⟨h, _⟩ | ⟨h, _⟩)
        · exact absurd (.inl h) h1
        · exact absurd (.inr h) h1
        · exact h
        · omega
        · omega
    · rw [if_neg h2]
      by_cases h3 : (a.k = 3 ∧ b.k = 3) ∨ (a.k = 5 ∧ b.k = 5)
      · rw [if_pos h3, sub_iff (known3 ha (by omega)).1]
        constructor
        · intro h; exact .inr (.inr (.inr (.inl ⟨h3, h⟩)))
        · rintro (h | h | ⟨h, _⟩ | ⟨_, h⟩ | ⟨h, h'⟩)
          · exact absurd (.inl h) h1
          · exact absurd (.inr h) h1
          · omega
          · exact h
          · omega
      · rw [if_neg h3]
        simp only [Bool.and_eq_true, decide_eq_true_eq, and_assoc]
        constructor
        · intro h; exact .inr (.inr (.inr (.inr h)))
        · rintro (h | h | ⟨h, _⟩ | ⟨h, _⟩ | h)
          · exact absurd (.inl h) h1
          · exact absurd (.inr h) h1
          · omega
          · exact absurd h h3
          · exact h
theorem lub_known (hw : rightW l = true) {a b : Typ} (ha : knownT l a = true) (hb : knownT l b = true) : knownT l (lubT l a b) = true := by
  unfold lubT
  repeat' split
  · exact ha
  · exact hb
  · exact ha
  · rename_i h
    exact known_of3 (t := ⟨a.k, comS l a.c b.c, 0⟩) h.2 (known_in (com_spec hw (known3 hb (by omega)).1 _ (known3 ha h.2).1).1) rfl
  · exact known_objT
  · rfl
theorem lub_up (hw : rightW l = true) {a b : Typ} (ha : knownT l a = true) (hb : knownT l b = true) : leT l a (lubT l a b) = true ∧ leT l b (lubT l a b) = true := by
  rw [le_iff ha (lub_known hw ha hb), le_iff hb (lub_known hw ha hb)]
  unfold lubT
  repeat' split
  · rename_i h; exact ⟨.inl rfl, .inl h.symm⟩
  · rename_i h; exact ⟨.inr (.inr (.inl h)), .inl rfl⟩
  · rename_i h; exact ⟨.inl rfl, .inr (.inr (.inl h))⟩
  · rename_i h
    have := com_spec hw (known3 hb (by omega)).1 _ (known3 ha h.2).1
    exact ⟨.inr (.inr (.inr (.inl ⟨by simp only; omega, this.1⟩))), .inr (.inr (.inr (.inl ⟨by simp only; omega, this.2.1⟩)))⟩
  · rename_i h1 h2 h3 h4 h
    have key : ∀ {t : Typ}, knownT l t = true → (t.k = 3 ∨ t.k = 4 ∨ t.k = 5) → t = objT ∨ objT.k = 0 ∨ (t.k = 2 ∧ (objT.k = 3 ∨ objT.k = 4 ∨ objT.k = 5)) ∨ (((t.k = 3 ∧ objT.k = 3) ∨ (t.k = 5 ∧ objT.k = 5)) ∧ objT.c ∈ chain l t.c) ∨ ((t.k = 4 ∨ t.k = 5) ∧ objT.k = 3 ∧ objT.c = sObject) := by
      intro t ht hk
      by_cases h : t.k = 3
      · exact .inr (.inr (.inr (.inl ⟨.inl ⟨h, rfl⟩, obj_in hw _ (known3 ht (.inl h)).1⟩)))
      · exact .inr (.inr (.inr (.inr ⟨by omega, rfl, rfl⟩)))
    exact ⟨key ha h.1, key hb h.2⟩
  · exact ⟨.inr (.inl rfl), .inr (.inl rfl)⟩
set_option maxHeartbeats 4000000 in
theorem lub_least (hw : rightW l = true) {a b c : Typ} (ha : knownT l a = true) (hb : knownT l b = true) (hc : knownT l c = true) (h1 : leT l a c = true) (h2 : leT l b c = true) : leT l (lubT l a b) c = true := by
  have hk := lub_known hw ha hb
  have h1' := h1
  have h2' := h2
  rw [le_iff ha hc] at h1
  rw [le_iff hb hc] at h2
  by_cases hc0 : c.k = 0
  · rw [le_iff hk hc]; exact .inr (.inl hc0)
  revert hk
  unfold lubT
  split
  · intro _; exact h1'
  · rename_i hab
    split
    · intro _; exact h2'
    · rename_i hn1
      split
      · intro _; exact h1'
      · rename_i hn2
        split
        · rename_i h
          intro hk
          rw [le_iff hk hc]
          have ka := known3 ha h.2
          have kb := known3 hb (by omega)
          have hsp := com_spec hw kb.1 _ ka.1
          rcases h1 with e | h1 | ⟨h1, _⟩ | ⟨h1, h1m⟩ | ⟨h1, h1c⟩
          · -- c = a: then b is below a
            subst e
            rcases h2 with e | h2 | ⟨h2, _⟩ | ⟨h2, h2m⟩ | ⟨h2, h2c⟩
            · exact absurd e.symm hab
            · omega
            · omega
            · exact .inr (.inr (.inr (.inl ⟨by simp only; omega, hsp.2.2 _ (self_in hw ka.1) h2m⟩)))
            · exact absurd h2c.1 (by omega)
          · omega
          · omega
          · rcases h2 with e | h2 | ⟨h2, _⟩ | ⟨h2, h2m⟩ | ⟨h2, h2c⟩
            · subst e
              exact .inr (.inr (.inr (.inl ⟨by simp only; omega, hsp.2.2 _ h1m (self_in hw kb.1)⟩)))
            · omega
            · omega
            · exact .inr (.inr (.inr (.inl ⟨by simp only; omega, hsp.2.2 _ h1m h2m⟩)))
            · omega
          · have : a.k = 5 := by omega
            exact .inr (.inr (.inr (.inr ⟨by simp only; omega, h1c⟩)))
        · rename_i hn3
          split
          · rename_i h
            intro hk
            rw [le_iff hk hc]
            have hO : c.k = 3 → c.c = sObject → objT = c := fun e1 e2 => typ_ext (by rw [e1]; rfl) (by rw [e2]; rfl) (by rw [(known3 hc (.inl e1)).2]; rfl)
            have hsame := fun e (h6 : ¬ (a.k = 3 ∨ a.k = 5)) => hab (typ_same ha hb e h6 (by omega))
            rcases h1 with e | h1 | ⟨h1, _⟩ | ⟨h1, h1m⟩ | ⟨h1, h1c⟩
            · subst e
              rcases h2 with e | h2 | ⟨h2, _⟩ | ⟨h2, h2m⟩ | ⟨h2, h2c⟩
              · exact absurd e.symm hab
              · omega
              · omega
              · omega
              · exact .inl (hO h2c.1 h2c.2)
            · omega
            · omega
            · rcases h2 with e | h2 | ⟨h2, _⟩ | ⟨h2, h2m⟩ | ⟨h2, h2c⟩
              · subst e; omega
              · omega
              · omega
              · omega
              · exact .inl (hO h2c.1 h2c.2)
            · exact .inl (hO h1c.1 h1c.2)
          · rename_i hn4
            intro hk
            rw [le_iff hk hc]
            rcases h1 with e | h1 | ⟨h1, h1b⟩ | ⟨h1, h1m⟩ | ⟨h1, h1c⟩
            · subst e
              rcases h2 with e | h2 | ⟨h2, _⟩ | ⟨h2, h2m⟩ | ⟨h2, h2c⟩
              · exact absurd e.symm hab
              · omega
              · omega
              · omega
              · omega
            · omega
            · rcases h2 with e | h2 | ⟨h2, h2b⟩ | ⟨h2, h2m⟩ | ⟨h2, h2c⟩
              · subst e; omega
              · omega
              · exact absurd (typ_same ha hb (by omega) (by omega) (by omega)) hab
              · omega
              · omega
            · rcases h2 with e | h2 | ⟨h2, h2b⟩ | ⟨h2, h2m⟩ | ⟨h2, h2c⟩
              · subst e; omega
              · omega
              · omega
              · omega
              · omega
            · rcases h2 with e | h2 | ⟨h2, h2b⟩ | ⟨h2, h2m⟩ | ⟨h2, h2c⟩
              · subst e; omega
              · omega
              · omega
              · omega
              · omega
set_option maxHeartbeats 4000000 in
theorem lub_comm (hw : rightW l = true) {a b : Typ} (ha : knownT l a = true) (hb : knownT l b = true) : lubT l a b = lubT l b a := by
  unfold lubT
  by_cases h1 : a = b
  · rw [if_pos h1, if_pos h1.symm, h1]
  · rw [if_neg h1, if_neg (show ¬ b = a from fun e => h1 e.symm)]
    repeat' split
    all_goals first
      | rfl
      | (exfalso; omega)
      | (exact absurd (typ_same ha hb (by omega) (by omega) (by omega)) h1)
      | (rename_i h _; rw [com_comm hw (known3 ha (by omega)).1 (known3 hb (by omega)).1]; congr 1; omega)
      | (rename_i h; rw [com_comm hw (known3 ha (by omega)).1 (known3 hb (by omega)).1]; congr 1; omega)
end
end Go.Proofs
namespace Go.Proofs
open Go Go.Ev
structure Fnd where
  c : Str
  p : Int
  e : Int
  deriving DecidableEq, Inhabited
def eFd (x : Fnd) : V := .agg [.str x.c, .int .i64 x.p, .int .i64 x.e]
attribute [simp] eFd
def zFd : Fnd := ⟨[], 0, 0⟩
def noFd : Fnd := ⟨[], 0, 8⟩
def szFd : Fnd := ⟨[], 0, 2⟩
def descV : Str := [40, 41, 86]
/-- a method of which the name and the desc alone stand there -/
def bareM (n d : Str) : Mth := ⟨n, d, false, false, false, 0, 0, [], []⟩
theorem wk_bareM (n d : Str) : Wk (.agg [.str n, .str d, .bool false, .bool false, .bool false, .int .i64 0, .int .i64 0, .raw (.slice none 0 0), .raw (.slice none 0 0)]) (eM (bareM n d)) :=
  Wk.agg (.cons (Wk.refl _) (.cons (Wk.refl _) (.cons (Wk.refl _) (.cons (Wk.refl _) (.cons (Wk.refl _) (.cons (Wk.refl _) (.cons (Wk.refl _) (.cons (Wk.nilSlice _ _) (.cons (Wk.nilSlice _ _) .nil)))))))))
/-- the method in the first of these classes that has it -/
def fmL (l : List Cls) (n d : Str) : List Str → Fnd × Mth
  | [] => (noFd, zM)
  | x :: xs => if 0 ≤ mthFrom n d (clsOf l x).methods 0 then (⟨x, mthFrom n d (clsOf l x).methods 0, 0⟩, atL (clsOf l x).methods (mthFrom n d (clsOf l x).methods 0).toNat)
    else if n = init then (if bIn x = true ∧ d = descV then (⟨x, -1, 0⟩, bareM init d) else (noFd, zM)) else fmL l n d xs
def fmW (l : List Cls) (c n d : Str) : Fnd :=
  if 400 < l.length ∨ 20000 < c.length ∨ 20000 < n.length ∨ 20000 < d.length then szFd else if rightW l = true then (fmL l n d (chain l c)).1 else zFd
/-- .. as the reference goes: by the place of the class -/
def fmU (l : List Cls) (n d : Str) (k : Int) : Fnd := if k < 0 then noFd else (fmL l n d (chain l (nmAt l k))).1
theorem mthFrom_nil {n d : Str} : mthFrom n d [] 0 = -1 := rfl
theorem cls_bIn {l : List Cls} (h : P12 l) {x : Str} (hb : 0 ≤ builtIx x) : clsOf l x = zC := clsOf_none (by have := (super_bIn (fun k hk => (h k hk).1) hb).1; omega)
theorem bIn_super {l : List Cls} (h : P12 l) {x : Str} (hb : 0 ≤ builtIx x) : superI l x = [] ∨ 0 ≤ builtIx (superI l x) := by
  rw [(super_bIn (fun k hk => (h k hk).1) hb).2]
  split
  · exact .inl rfl
  · split
    · exact .inr (by rw [bIx_obj.1]; omega)
    · exact .inr (by rw [bIx_obj.2.1]; omega)
theorem fm_bIn {l : List Cls} (hw : rightW l = true) {n d : Str} (hn : n ≠ init) : ∀ x, isKnown l x = true → 0 ≤ builtIx x → fmL l n d (chain l x) = (noFd, zM) := by
  have one : ∀ x (xs : List Str), 0 ≤ builtIx x → fmL l n d (x :: xs) = fmL l n d xs := fun x xs hb => by
    simp only [fmL]
    rw [cls_bIn (right_P12 hw) hb, if_neg (by show ¬ 0 ≤ mthFrom n d [] 0; rw [mthFrom_nil]; omega), if_neg hn]
  refine chain_ind hw ?_ ?_
  · intro hb; rw [chain_obj hw, one _ _ hb]; rfl
  · intro x hx hxo _ ih hb
    rw [chain_rec hw hx, one _ _ hb]
    rcases bIn_super (right_P12 hw) hb with e | e
    · exact absurd e (super_ne (right_P12 hw) hx hxo)
    · exact ih e
theorem nm_known {l : List Cls} {k : Int} (h0 : 0 ≤ k) (h1 : k < l.length) : isKnown l (nmAt l k) = true := known_at h0 h1
theorem fm_start {l : List Cls} (hw : rightW l = true) {c n d : Str} (h : ¬ (0 ≤ builtIx c ∧ n = init ∧ d = descV)) : fmU l n d (findFrom c l 0) = (fmL l n d (chain l c)).1 := by
  unfold fmU
  by_cases hf : findFrom c l 0 < 0
  · rw [if_pos hf]
    by_cases hb : 0 ≤ builtIx c
    · have hk := known_bIn (l := l) hb
      by_cases hn : n = init
      · rw [chain_rec hw hk]
        simp only [fmL]
        rw [cls_bIn (right_P12 hw) hb, if_neg (by show ¬ 0 ≤ mthFrom n d [] 0; rw [mthFrom_nil]; omega), if_pos hn, if_neg (fun e => h ⟨hb, hn, e.2⟩)]
      · rw [fm_bIn hw hn c hk hb]
    · rw [chain_no (by simp [isKnown]; omega)]; rfl
  · rw [if_neg hf]
    obtain ⟨i, hi, e1, e2, _⟩ := found_name (l := l) (n := c) (by omega)
    rw [e1, nmAt_nat hi, e2]
theorem fm_built {l : List Cls} (hw : rightW l = true) {c n d : Str} (hb : 0 ≤ builtIx c) (hn : n = init) (hd : d = descV) : (fmL l n d (chain l c)).1 = ⟨c, -1, 0⟩ := by
  rw [chain_rec hw (known_bIn hb)]
  simp only [fmL]
  rw [cls_bIn (right_P12 hw) hb, if_neg (by show ¬ 0 ≤ mthFrom n d [] 0; rw [mthFrom_nil]; omega), if_pos hn, if_pos ⟨by simp [bIn, hb], hd⟩]
theorem fmU_neg {l : List Cls} {n d : Str} {k : Int} (h : k < 0) : fmU l n d k = noFd := if_pos h
theorem fmU_go {l : List Cls} (hw : rightW l = true) {n d : Str} {k : Nat} (hk : k < l.length) :
    fmU l n d k = if 0 ≤ mthFrom n d l[k].methods 0 then ⟨l[k].name, mthFrom n d l[k].methods 0, 0⟩ else if n = init then noFd else fmU l n d (nxt l k) := by
  have hp := right_P12 hw
  have hkn := nm_known (l := l) (k := (k : Int)) (by omega) (by omega)
  unfold fmU
  rw [if_neg (by omega), chain_rec hw hkn]
  simp only [fmL]
  rw [clsOf_at hp hk, nmAt_nat hk]
  by_cases h1 : 0 ≤ mthFrom n d l[k].methods 0
  · rw [if_pos h1, if_pos h1]
  · rw [if_neg h1, if_neg h1]
    by_cases h2 : n = init
    · rw [if_pos h2, if_pos h2, if_neg]
      rintro ⟨e, _⟩
      have := name_not_bIn hk (hp k hk).1
      simp [bIn] at e; omega
    · rw [if_neg h2, if_neg h2]
      by_cases h3 : nxt l k < 0
      · rw [if_pos h3]
        obtain ⟨e1, e2⟩ := super_cls hp hk
        rw [e1]
        rcases e2 with ⟨_, e | e⟩ | ⟨j, hj, e4, _⟩
        · rw [e, fm_bIn hw h2 _ known_obj (by rw [bIx_obj.1]; omega)]
        · rw [e, fm_bIn hw h2 _ (known_bIn (by rw [bIx_obj.2.1]; omega)) (by rw [bIx_obj.2.1]; omega)]
        · omega
      · rw [if_neg h3]
        have := step_up hp (k := (k : Int)) (by omega) (by omega) (by omega)
        rw [nmAt_nat hk] at this
        rw [this]
/-- how far the way up is, by the place of the class -/
def rkU (l : List Cls) (k : Int) : Nat := if k < 0 then 0 else rk l (nmAt l k) + 1
theorem rkU_lt {l : List Cls} (hw : rightW l = true) {k : Nat} (hk : k < l.length) : rkU l (nxt l k) < rkU l k := by
  unfold rkU
  rw [if_neg (show ¬ (k : Int) < 0 from by omega)]
  by_cases h3 : nxt l k < 0
  · rw [if_pos h3]; omega
  · rw [if_neg h3]
    have hkn := nm_known (l := l) (k := (k : Int)) (by omega) (by omega)
    have := step_up (right_P12 hw) (k := (k : Int)) (by omega) (by omega) (by omega)
    have h2 := rk_lt (right_P12 hw) (right_cyc hw) hkn (by
      rw [this]; intro e
      have h4 := nm_known (l := l) (k := nxt l k) (by omega) nxt_ge.2
      rw [e, nil_unknown (right_P12 hw)] at h4; cases h4)
    rw [this] at h2; omega
theorem comW_of {l : List Cls} (hw : rightW l = true) {a b : Str} (ha : a.length ≤ 20000) (hb : b.length ≤ 20000) : comI l a b = comW l a b := by
  unfold comW
  rw [decide_eq_true ha, decide_eq_true hb, hw]
  by_cases hk : isKnown l a = true
  · by_cases hk2 : isKnown l b = true
    · rw [hk, hk2, if_pos (by rfl), com_eq hk hk2]
    · rw [if_neg (by simp [hk2])]
      unfold comI
      rw [chain_no (n := b) (by simpa using hk2)]
      have : (chain l a).find? (fun x => isKnown l x && out [] x) = none := by simp [out]
      rw [this]; rfl
  · rw [if_neg (by simp [hk])]; unfold comI; rw [chain_no (n := a) (by simpa using hk)]; rfl
end Go.Proofs
namespace Go.Proofs
open Go Go.Ev
theorem fldK_cons {l : List Cls} {n : Str} {ch : List Str} : ∀ k, k ≤ ch.length → fldK l (n :: ch) k = fldK l ch k
  | 0, _ => rfl
  | k + 1, h => by
    rw [fldK, fldK, fldK_cons k (by omega)]
    have : (n :: ch).length - 1 - k = (ch.length - 1 - k) + 1 := by simp only [List.length_cons]; omega
    rw [this, List.getD_cons_succ]
def fldF (l : List Cls) (ch : List Str) : List Fld := fldK l ch ch.length
theorem fldF_cons {l : List Cls} {n : Str} {ch : List Str} : fldF l (n :: ch) = fldF l ch ++ ownF (clsOf l n) := by
  unfold fldF
  rw [List.length_cons, fldK, fldK_cons _ (Nat.le_refl _)]
  simp
theorem ownF_zC : ownF zC = [] := rfl
theorem flds_bIn {l : List Cls} (hw : rightW l = true) : ∀ x, isKnown l x = true → 0 ≤ builtIx x → fldF l (chain l x) = [] := by
  have one : ∀ x (xs : List Str), 0 ≤ builtIx x → fldF l (x :: xs) = fldF l xs := fun x xs hb => by
    rw [fldF_cons, cls_bIn (right_P12 hw) hb, ownF_zC, List.append_nil]
  refine chain_ind hw ?_ ?_
  · intro hb; rw [chain_obj hw, one _ _ hb]; rfl
  · intro x hx hxo _ ih hb
    rw [chain_rec hw hx, one _ _ hb]
    rcases bIn_super (right_P12 hw) hb with e | e
    · exact absurd e (super_ne (right_P12 hw) hx hxo)
    · exact ih e
theorem flds_no {l : List Cls} (hw : rightW l = true) {n : Str} (h : findFrom n l 0 < 0) : fldsI l n = [] := by
  by_cases hb : 0 ≤ builtIx n
  · exact flds_bIn hw n (known_bIn hb) hb
  · unfold fldsI; rw [chain_no (by simp [isKnown]; omega)]; rfl
theorem flds_go {l : List Cls} (hw : rightW l = true) {n : Str} {k : Nat} (h : findFrom n l 0 = k) : ∃ hk : k < l.length, fldsI l n = fldsI l l[k].super ++ ownF l[k] := by
  obtain ⟨i, hi, e1, e2, e3⟩ := found_name (l := l) (n := n) (by omega)
  obtain rfl : i = k := by omega
  refine ⟨hi, ?_⟩
  have hn : isKnown l n = true := by rw [← e2]; exact known_own hi
  show fldF l (chain l n) = fldF l (chain l l[i].super) ++ ownF l[i]
  have hc := clsOf_at (right_P12 hw) hi
  rw [nmAt_nat hi, e2] at hc
  rw [chain_rec hw hn, fldF_cons, e3, hc]
theorem flds_len {l : List Cls} (hw : rightW l = true) {n : Str} : (fldsI l n).length ≤ 18 * sizeL l := by
  have h1 := fldK_len (l := l) (ch := chain l n) (chain l n).length
  have h2 := chain_len l n
  have h3 := right_len hw
  exact Nat.le_trans h1 (Nat.mul_le_mul_right _ (by omega))
theorem flds_rank {l : List Cls} (hw : rightW l = true) {n : Str} {k : Nat} (h : findFrom n l 0 = k) : ∃ hk : k < l.length, rkU l (findFrom l[k].super l 0) < rkU l (findFrom n l 0) := by
  obtain ⟨hk, _⟩ := flds_go hw h
  refine ⟨hk, ?_⟩
  rw [h]
  have := rkU_lt hw hk
  rwa [nxt_nat, atL_lt hk] at this
theorem fldsW_len {l : List Cls} {n : Str} (hs : sizeL l ≤ 1048576) : (fldsW l n).length ≤ 18874368 := by
  unfold fldsW
  split
  · rename_i h
    rw [Bool.and_eq_true] at h
    have := flds_len (n := n) h.2
    omega
  · simp
end Go.Proofs
namespace Go.Proofs
open Go Go.Ev
theorem sub_ok {z : Int} {n : Nat} (h : 0 ≤ sub z n) : (n : Int) ≤ z ∧ sub z n = z - n := by
  unfold sub at h ⊢; split at h <;> omega
structure Frm where
  stack : List Typ
  locals : List Typ
  deriving DecidableEq, Inhabited
def eFr (x : Frm) : V := .agg [.lst false 3 (x.stack.map eT), .lst false 3 (x.locals.map eT)]
def oFr (x : Frm) : V := .agg [.lst true 3 (x.stack.map eT), .lst true 3 (x.locals.map eT)]
attribute [simp] eFr oFr
def sizeFr (x : Frm) : Nat := (x.stack.length + (x.stack.map sizeT).sum) + (x.locals.length + (x.locals.map sizeT).sum)
def bigFr (x : Frm) : Prop := x.stack.length < 4611686018427387904 ∧ (∀ y ∈ x.stack, bigT y) ∧ x.locals.length < 4611686018427387904 ∧ (∀ y ∈ x.locals, bigT y)
@[simp] theorem pureL_eFr (l : List Frm) : pureL (l.map eFr) = true := pureL_map _ (fun _ => rfl) l
@[simp] theorem fzL_eFr (l : List Frm) : fzL (l.map eFr) = l.map eFr := fzL_mapf _ (fun _ => rfl) l
@[simp] theorem jkL_eFr (p : Nat → Bool) (l : List Frm) : jkL p (l.map eFr) = l.map eFr := jkL_mapf p _ (fun _ => rfl) l
theorem fz_oFr (x : Frm) : (oFr x).fz = eFr x := by simp [oFr, eFr, V.fz, fzL]
/-- a frame is right -/
def frmR (l : List Cls) (f : Frm) : Bool := decide (f.stack.length ≤ 16) && (decide (f.locals.length ≤ 16) && (f.stack.all (knownT l) && f.locals.all (knownT l)))
def frmRightW (l : List Cls) (f : Frm) : Bool := rightW l && frmR l f
def leLs (r : Typ → Typ → Bool) : List Typ → List Typ → Bool
  | [], [] => true
  | a :: as', b :: bs => r a b && leLs r as' bs
  | _, _ => false
def frmLeW (l : List Cls) (a b : Frm) : Bool := frmRightW l a && (frmR l b && (leLs (leT l) a.stack b.stack && leLs (leT l) a.locals b.locals))
theorem leLs_ne {r : Typ → Typ → Bool} : ∀ {a b : List Typ}, a.length ≠ b.length → leLs r a b = false
  | [], [], h => absurd rfl h
  | [], _ :: _, _ => rfl
  | _ :: _, [], _ => rfl
  | _ :: as', _ :: bs, h => by simp only [leLs]; rw [leLs_ne (by simpa using h), Bool.and_false]
theorem leLs_drop {r : Typ → Typ → Bool} {a b : List Typ} {i : Nat} (h : i < a.length) (e : a.length = b.length) : leLs r (a.drop i) (b.drop i) = (r a[i] b[i] && leLs r (a.drop (i + 1)) (b.drop (i + 1))) := by
  rw [List.drop_eq_getElem_cons h, List.drop_eq_getElem_cons (show i < b.length by omega)]; rfl
theorem leLs_end {r : Typ → Typ → Bool} {a b : List Typ} {i : Nat} (h : a.length ≤ i) (e : a.length = b.length) : leLs r (a.drop i) (b.drop i) = true := by
  rw [List.drop_eq_nil_of_le h, List.drop_eq_nil_of_le (show b.length ≤ i by omega)]; rfl
theorem leLs_eq {l : List Cls} : ∀ {a b : List Typ}, a.all (knownT l) = true → b.all (knownT l) = true → leLs (leI l) a b = leLs (leT l) a b
  | [], [], _, _ => rfl
  | [], _ :: _, _, _ => rfl
  | _ :: _, [], _, _ => rfl
  | x :: as', y :: bs, ha, hb => by
    simp only [List.all_cons, Bool.and_eq_true] at ha hb
    simp only [leLs]; rw [le_eq ha.1 hb.1, leLs_eq ha.2 hb.2]
theorem frmLeW_of (l : List Cls) (a b : Frm) : (rightW l && frmR l a && frmR l b && leLs (leI l) a.stack b.stack && leLs (leI l) a.locals b.locals) = frmLeW l a b := by
  unfold frmLeW frmRightW
  by_cases h : frmR l a = true ∧ frmR l b = true
  · have h1 := h.1
    have h2 := h.2
    simp only [frmR, Bool.and_eq_true] at h1 h2
    rw [leLs_eq h1.2.2.1 h2.2.2.1, leLs_eq h1.2.2.2 h2.2.2.2]
    simp only [Bool.and_assoc]
  · cases h1 : frmR l a <;> cases h2 : frmR l b <;> simp_all
theorem any_not {α : Type} (p : α → Bool) (l : List α) : (l.any fun x => !p x) = !l.all p := any_not_all p l
end Go.Proofs
namespace Go.Proofs
open Go Go.Ev
structure Vl where
  kind : Int
  n : Int
  deriving DecidableEq, Inhabited
structure HOb where
  kind : Int
  cls : Str
  ready : Bool
  vals : List Vl
  deriving DecidableEq, Inhabited
structure Hep where
  objs : List HOb
  room : Int
  deriving DecidableEq, Inhabited
def eVl (x : Vl) : V := .agg [.int .i64 x.kind, .int .i64 x.n]
def eOb (x : HOb) : V := .agg [.int .i64 x.kind, .str x.cls, .bool x.ready, .lst false 2 (x.vals.map eVl)]
def oOb (x : HOb) : V := .agg [.int .i64 x.kind, .str x.cls, .bool x.ready, .lst true 2 (x.vals.map eVl)]
def eHp (x : Hep) : V := .agg [.lst false 4 (x.objs.map eOb), .int .i64 x.room]
def oHp (x : Hep) : V := .agg [.lst true 4 (x.objs.map oOb), .int .i64 x.room]
@[simp] theorem pureL_eVl (l : List Vl) : pureL (l.map eVl) = true := pureL_map _ (fun _ => rfl) l
@[simp] theorem pureL_eOb (l : List HOb) : pureL (l.map eOb) = true := pureL_map _ (fun _ => rfl) l
@[simp] theorem pureL_oOb (l : List HOb) : pureL (l.map oOb) = true := pureL_map _ (fun x => by simp [oOb, V.pure, pureL]) l
@[simp] theorem fzL_eVl (l : List Vl) : fzL (l.map eVl) = l.map eVl := fzL_mapf _ (fun _ => rfl) l
@[simp] theorem fzL_eOb (l : List HOb) : fzL (l.map eOb) = l.map eOb := fzL_mapf _ (fun _ => rfl) l
theorem fz_oOb (x : HOb) : (oOb x).fz = eOb x := by simp [oOb, eOb, V.fz, fzL]
@[simp] theorem fzL_oOb (l : List HOb) : fzL (l.map oOb) = l.map eOb := by simp [fzL_map, fz_oOb]
@[simp] theorem jkL_eVl (p : Nat → Bool) (l : List Vl) : jkL p (l.map eVl) = l.map eVl := jkL_mapf p _ (fun _ => rfl) l
@[simp] theorem jkL_eOb (p : Nat → Bool) (l : List HOb) : jkL p (l.map eOb) = l.map eOb := jkL_mapf p _ (fun _ => rfl) l
@[simp] theorem jkL_oOb (p : Nat → Bool) (l : List HOb) : jkL p (l.map oOb) = l.map oOb := jkL_mapf p _ (fun x => by simp [oOb, V.pure, pureL]) l
attribute [simp] eVl eOb oOb eHp oHp
@[simp] def pHp (x : Hep) : V := .fp [.lst false 4 (x.objs.map eOb), .int .i64 x.room]
@[simp] def pOb (x : HOb) : V := .fp [.int .i64 x.kind, .str x.cls, .bool x.ready, .lst false 2 (x.vals.map eVl)]
def sizeOb (x : HOb) : Nat := x.cls.length + x.vals.length
def bigOb (x : HOb) : Prop := x.cls.length < 4611686018427387904 ∧ x.vals.length < 4611686018427387904
def sizeHp (x : Hep) : Nat := x.objs.length + (x.objs.map sizeOb).sum
def bigHp (x : Hep) : Prop := x.objs.length < 4611686018427387904 ∧ (∀ y ∈ x.objs, bigOb y)
theorem sizeHp_at {h : Hep} {i : Nat} (hi : i < h.objs.length) : sizeOb h.objs[i] ≤ sizeHp h := by
  have := mem_sum (f := sizeOb) (List.getElem_mem hi)
  unfold sizeHp; omega
/-- a value is one, with so many objects there -/
def valR (many : Nat) (v : Vl) : Bool := if v.kind = 1 then isInt v.n else if v.kind = 2 then decide (v.n = 0) else if v.kind = 3 then decide (1 ≤ v.n ∧ v.n ≤ many) else false
/-- a value may be in an object of such a kind -/
def fits (k : Int) (v : Vl) : Bool := !((decide (k = 2) && !decide (v.kind = 1)) || (decide (k = 3) && decide (v.kind = 1)))
def obK (l : List Cls) (o : HOb) : Bool :=
  if o.kind = 1 then isKnown l o.cls && decide (o.vals.length = (fldsI l o.cls).length)
  else if o.kind = 2 then decide (o.cls = []) && (o.ready && decide (o.vals.length ≤ 50))
  else if o.kind = 3 then isKnown l o.cls && (o.ready && decide (o.vals.length ≤ 50)) else false
def obR (l : List Cls) (many : Nat) (o : HOb) : Bool := o.vals.all (fun v => valR many v && fits o.kind v) && obK l o
def wrong (b : Bool) (vs : List Vl) : Bool := vs.any fun v => decide (v.kind = 1) != b
theorem obR_no {l : List Cls} {many : Nat} {o : HOb} (h : (o.vals.any fun v => !valR many v) = true) : obR l many o = false := by
  unfold obR
  rw [Bool.and_eq_false_iff]; left
  rw [List.any_eq_true] at h
  obtain ⟨v, hv, h⟩ := h
  rw [List.all_eq_false]
  refine ⟨v, hv, ?_⟩
  simp at h; simp [h]
theorem all_and {α : Type} (p q : α → Bool) (l : List α) : (l.all fun x => p x && q x) = (l.all p && l.all q) := by
  induction l with
  | nil => rfl
  | cons x l ih => simp only [List.all_cons, ih]; cases p x <;> cases q x <;> simp
theorem obR_yes {l : List Cls} {many : Nat} {o : HOb} (h : (o.vals.any fun v => !valR many v) = false) : obR l many o = (o.vals.all (fits o.kind) && obK l o) := by
  unfold obR
  rw [all_and]
  have : o.vals.all (valR many) = true := by
    rw [List.all_eq_true]; intro v hv
    have := List.any_eq_false.1 h v hv
    simpa using this
  rw [this, Bool.true_and]
theorem fits_all {k : Int} (h2 : k ≠ 2) (h3 : k ≠ 3) (l : List Vl) : l.all (fits k) = true := by
  rw [List.all_eq_true]; intro v _
  simp [fits, h2, h3]
theorem fits_2 (l : List Vl) : l.all (fits 2) = !wrong true l := by
  unfold wrong
  induction l with
  | nil => rfl
  | cons x l ih => simp only [List.all_cons, List.any_cons, ih, fits]; cases decide (x.kind = 1) <;> simp
theorem fits_3 (l : List Vl) : l.all (fits 3) = !wrong false l := by
  unfold wrong
  induction l with
  | nil => rfl
  | cons x l ih => simp only [List.all_cons, List.any_cons, ih, fits]; cases decide (x.kind = 1) <;> simp
/-- the six that are always there -/
def six (i : Nat) : Str := builtIn.getD (i + 2) []
def sixOK (i : Nat) (o : HOb) : Bool := !decide (i < 6) || (decide (o.kind = 1) && (decide (o.cls = six i) && o.ready))
def hpFrom (l : List Cls) (n i : Nat) : List HOb → Bool
  | [] => true
  | o :: os => obR l n o && (sixOK i o && hpFrom l n (i + 1) os)
def hpN (h : Hep) : Bool := decide (6 ≤ h.objs.length ∧ h.objs.length ≤ 100 ∧ 0 ≤ h.room ∧ h.room ≤ 100 - h.objs.length)
def hpR (l : List Cls) (h : Hep) : Bool := hpN h && hpFrom l h.objs.length 0 h.objs
def hpRightW (l : List Cls) (h : Hep) : Bool := rightW l && hpR l h
theorem hpFrom_iff {l : List Cls} {n : Nat} : ∀ {os : List HOb} {i : Nat}, hpFrom l n i os = true ↔ ∀ j (h : j < os.length), obR l n os[j] = true ∧ sixOK (i + j) os[j] = true
  | [], i => by simp [hpFrom]
  | o :: os, i => by
    simp only [hpFrom, Bool.and_eq_true, hpFrom_iff (os := os)]
    constructor
    · rintro ⟨h1, h2, h3⟩ j hj
      cases j with
      | zero => exact ⟨h1, h2⟩
      | succ j => have := h3 j (by simpa using hj); rw [show i + (j + 1) = i + 1 + j from by omega]; exact this
    · intro h
      refine ⟨(h 0 (by simp)).1, (h 0 (by simp)).2, fun j hj => ?_⟩
      have := h (j + 1) (by simpa using hj)
      rw [show i + 1 + j = i + (j + 1) from by omega]; exact this
theorem hpFrom_drop {l : List Cls} {n i : Nat} {os : List HOb} (h : i < os.length) : hpFrom l n i (os.drop i) = (obR l n os[i] && (sixOK i os[i] && hpFrom l n (i + 1) (os.drop (i + 1)))) := by
  rw [List.drop_eq_getElem_cons h]; rfl
theorem six_v {i : Nat} (h : i < 6) : atV (List.drop 2 (List.take 8 (List.map V.str builtIn))) i = .str (six i) := by
  match i, h with
  | 0, _ => rfl
  | 1, _ => rfl
  | 2, _ => rfl
  | 3, _ => rfl
  | 4, _ => rfl
  | 5, _ => rfl
theorem six_L {i : Nat} (h : i < 6) : atV (List.map V.str builtIn) (i + 2) = .str (six i) := by
  match i, h with
  | 0, _ => rfl
  | 1, _ => rfl
  | 2, _ => rfl
  | 3, _ => rfl
  | 4, _ => rfl
  | 5, _ => rfl
/-- what the program asks of the six -/
def sixI (i : Nat) (o : HOb) : Bool := decide (o.kind = 1) && (decide (o.cls = six i) && (o.ready && decide (o.vals.length = 0)))
theorem six_flds {l : List Cls} (hw : rightW l = true) {i : Nat} (h : i < 6) : fldsI l (six i) = [] := by
  have hb : 0 ≤ builtIx (six i) := by
    match i, h with
    | 0, _ => decide
    | 1, _ => decide
    | 2, _ => decide
    | 3, _ => decide
    | 4, _ => decide
    | 5, _ => decide
  exact flds_bIn hw _ (known_bIn hb) hb
theorem hp_bad {l : List Cls} (hw : rightW l = true) {os : List HOb} {n i : Nat} (h : i < 6) (hi : i < os.length) (hs : sixI i os[i] = false) : hpFrom l n 0 os = false := by
  rw [Bool.eq_false_iff]
  intro hc
  obtain ⟨h1, h2⟩ := hpFrom_iff.1 hc i hi
  rw [Nat.zero_add] at h2
  simp only [sixOK, decide_eq_true h, Bool.not_true, Bool.false_or, Bool.and_eq_true, decide_eq_true_eq] at h2
  obtain ⟨e1, e2, e3⟩ := h2
  simp only [obR, Bool.and_eq_true] at h1
  have h1 := h1.2
  unfold obK at h1
  rw [if_pos e1, Bool.and_eq_true, decide_eq_true_eq, e2, six_flds hw h] at h1
  rw [sixI, decide_eq_true e1, decide_eq_true e2, e3, decide_eq_true (show os[i].vals.length = 0 from h1.2)] at hs
  cases hs
theorem hp_good {l : List Cls} {os : List HOb} {n : Nat} (h6 : 6 ≤ os.length) (hs : ∀ i (h : i < 6), sixI i (os[i]'(by omega)) = true) : hpFrom l n 0 os = os.all (obR l n) := by
  rw [Bool.eq_iff_iff, hpFrom_iff, List.all_eq_true]
  constructor
  · intro h o ho
    obtain ⟨j, hj, rfl⟩ := List.getElem_of_mem ho
    exact (h j hj).1
  · intro h j hj
    refine ⟨h _ (List.getElem_mem hj), ?_⟩
    rw [Nat.zero_add]
    unfold sixOK
    by_cases h6 : j < 6
    · have := hs j h6
      simp only [sixI, Bool.and_eq_true] at this
      rw [this.1, this.2.1, this.2.2.1]; simp
    · simp [h6]
theorem hpR_len {l : List Cls} {h : Hep} (hr : hpR l h = true) : 6 ≤ h.objs.length ∧ h.objs.length ≤ 100 ∧ 0 ≤ h.room ∧ h.room ≤ 100 - h.objs.length := by
  simp only [hpR, hpN, Bool.and_eq_true, decide_eq_true_eq] at hr; exact hr.1
theorem hpR_at {l : List Cls} {h : Hep} (hr : hpR l h = true) {i : Nat} (hi : i < h.objs.length) : obR l h.objs.length h.objs[i] = true := by
  simp only [hpR, Bool.and_eq_true] at hr
  exact (hpFrom_iff.1 hr.2 i hi).1
/-- an object is of a class -/
def heapIsI (l : List Cls) (h : Hep) (n : Int) (c : Str) : Bool :=
  if (atL h.objs (n - 1).toNat).kind = 1 then isKnown l c && out (chain l (atL h.objs (n - 1).toNat).cls) c else decide (c = sObject)
def heapIsS (l : List Cls) (h : Hep) (n : Int) (c : Str) : Bool :=
  if (atL h.objs (n - 1).toNat).kind = 1 then subS l (atL h.objs (n - 1).toNat).cls c else decide (c = sObject)
def hasR (h : Hep) (n : Int) : Bool := decide (1 ≤ n ∧ n ≤ h.objs.length)
def heapIsW (l : List Cls) (h : Hep) (n : Int) (c : Str) : Bool := decide (c.length ≤ 20000) && (hpRightW l h && (hasR h n && heapIsI l h n c))
theorem chain_mem {l : List Cls} (hw : rightW l = true) {b : Str} : ∀ a, isKnown l a = true → b ∈ chain l a → isKnown l b = true := by
  refine chain_ind hw ?_ ?_
  · intro hb; rw [chain_obj hw, List.mem_singleton] at hb; rw [hb]; exact known_obj
  · intro x hx hxo _ ih hb
    rw [chain_rec hw hx] at hb
    rcases List.mem_cons.1 hb with rfl | hb
    · exact hx
    · exact ih hb
theorem heapIs_eq {l : List Cls} {h : Hep} (hw : rightW l = true) (hr : hpR l h = true) {n : Int} (hn : hasR h n = true) {c : Str} : heapIsS l h n c = heapIsI l h n c := by
  unfold heapIsS heapIsI
  simp only [hasR, decide_eq_true_eq] at hn
  split
  · rename_i hk
    have hi : (n - 1).toNat < h.objs.length := by omega
    rw [atL_lt hi] at hk ⊢
    have ho := hpR_at hr hi
    simp only [obR, Bool.and_eq_true] at ho
    have ho := ho.2
    unfold obK at ho
    rw [if_pos hk, Bool.and_eq_true] at ho
    unfold subS
    rw [chS_known ho.1]
    cases hb : out (chain l h.objs[(n - 1).toNat].cls) c
    · simp
    · rw [chain_mem hw _ ho.1 (out_iff.1 hb)]; rfl
  · rfl
end Go.Proofs
namespace Go.Proofs
open Go Go.Ev
structure HpO where
  h : Hep
  v : Vl
  code : Int
  deriving DecidableEq, Inhabited
def eHo (x : HpO) : V := .agg [.lst false 4 (x.h.objs.map eOb), .int .i64 x.h.room, .int .i64 x.v.kind, .int .i64 x.v.n, .int .i64 x.code]
def oHo (x : HpO) : V := .agg [.lst true 4 (x.h.objs.map oOb), .int .i64 x.h.room, .int .i64 x.v.kind, .int .i64 x.v.n, .int .i64 x.code]
theorem fz_oHo (x : HpO) : (oHo x).fz = eHo x := by simp [oHo, eHo, V.fz, fzL]
attribute [simp] eHo oHo
def zHo (c : Int) : HpO := ⟨⟨[], 0⟩, ⟨0, 0⟩, c⟩
/-- what a thing of a type begins with -/
def zeroV (t : Str) : Vl := if t = [73] then ⟨1, 0⟩ else ⟨2, 0⟩
def addO (h : Hep) (o : HOb) : HpO := ⟨⟨h.objs ++ [o], h.room - 1⟩, ⟨3, (h.objs.length : Int) + 1⟩, 0⟩
def newO (l : List Cls) (c : Str) : HOb := ⟨1, c, false, (fldsI l c).map fun f => zeroV f.type⟩
def makeW (l : List Cls) (h : Hep) (c : Str) : HpO :=
  if 400 < l.length ∨ 20000 < c.length then zHo 2 else if hpRightW l h = true then
    (if isKnown l c = true then (if h.room = 0 then zHo 15 else addO h (newO l c)) else zHo 8) else zHo 1
def listO (d : Str) (n : Nat) : HOb := if d = [73] then ⟨2, [], true, List.replicate n (zeroV d)⟩ else ⟨3, typeClass d, true, List.replicate n (zeroV d)⟩
def listW (l : List Cls) (h : Hep) (d : Str) (n : Int) : HpO :=
  if 400 < l.length ∨ 20000 < d.length then zHo 2 else if (hpRightW l h && (typeRight d && (!isAt d 0 91 && typeK l d))) = true then
    (if n < 0 ∨ 50 < n then zHo 10 else if h.room = 0 then zHo 15 else addO h (listO d n.toNat)) else zHo 1
def placeR (h : Hep) (r p : Int) : Bool := hasR h r && decide (0 ≤ p ∧ p < ((atL h.objs (r - 1).toNat).vals.length : Int))
def getW (l : List Cls) (h : Hep) (r p : Int) : HpO :=
  if 400 < l.length then zHo 2 else if hpRightW l h = true then (if placeR h r p = true then ⟨h, atL (atL h.objs (r - 1).toNat).vals p.toNat, 0⟩ else zHo 8) else zHo 1
/-- a value may be in an object -/
def mayI (l : List Cls) (h : Hep) (o : HOb) (v : Vl) : Bool :=
  if o.kind = 2 then decide (v.kind = 1) else if o.kind = 3 then decide (v.kind = 2) || (decide (v.kind = 3) && (hasR h v.n && heapIsI l h v.n o.cls)) else true
def putAt (h : Hep) (r p : Nat) (v : Vl) : Hep := ⟨h.objs.set r { atL h.objs r with vals := (atL h.objs r).vals.set p v }, h.room⟩
def putW (l : List Cls) (h : Hep) (r p : Int) (v : Vl) : HpO :=
  if 400 < l.length then zHo 2 else if hpRightW l h = true then (if placeR h r p = true then
    (if (valR h.objs.length v && mayI l h (atL h.objs (r - 1).toNat) v) = true then ⟨putAt h (r - 1).toNat p.toNat v, ⟨0, 0⟩, 0⟩ else zHo 10) else zHo 8) else zHo 1
def nilP : V := .raw (.pointer none)
/-- the world, a copy of the heap and a code -/
def hpOfV (l : List Cls) (h : Hep) (cs : List Str) : V :=
  if 400 < l.length ∨ ¬ (∀ c ∈ cs, c.length ≤ 20000) then .tup [nilP, nilP, .int .i64 2] else if hpRightW l h = true then .tup [wv l, .bx 2 (oHp h), .int .i64 0] else .tup [nilP, nilP, .int .i64 1]
theorem hpOf_split (l : List Cls) (h : Hep) (cs : List Str) : (hpOfV l h cs = .tup [nilP, nilP, .int .i64 2] ∧ (400 < l.length ∨ ¬ (∀ c ∈ cs, c.length ≤ 20000))) ∨
    (hpOfV l h cs = .tup [nilP, nilP, .int .i64 1] ∧ ¬ (400 < l.length ∨ ¬ (∀ c ∈ cs, c.length ≤ 20000)) ∧ hpRightW l h = false) ∨
    (hpOfV l h cs = .tup [wv l, .bx 2 (oHp h), .int .i64 0] ∧ ¬ (400 < l.length ∨ ¬ (∀ c ∈ cs, c.length ≤ 20000)) ∧ hpRightW l h = true) := by
  unfold hpOfV
  split
  · rename_i hc; exact .inl ⟨rfl, hc⟩
  · rename_i hc
    split
    · rename_i hr; exact .inr (.inr ⟨rfl, hc, hr⟩)
    · rename_i hr; exact .inr (.inl ⟨rfl, hc, by simpa using hr⟩)
theorem zHo_wk (c : Int) : Wk (.agg [.raw (.slice none 0 0), .int .i64 0, .int .i64 0, .int .i64 0, .int .i64 c]) (oHo (zHo c)) :=
  Wk.agg (.cons (Wk.nilSlice _ _) (.cons (Wk.refl _) (.cons (Wk.refl _) (.cons (Wk.refl _) (.cons (Wk.refl _) .nil)))))
theorem right_world {l : List Cls} {h : Hep} (hr : hpRightW l h = true) : rightW l = true ∧ hpR l h = true := by
  simpa [hpRightW] using hr
theorem flds_le {l : List Cls} {c : Str} (hl : l.length ≤ 1000) (hs : sizeL l ≤ 1048576) : (fldsI l c).length ≤ 1100000000 := by
  have h1 := fldK_len (l := l) (ch := chain l c) (chain l c).length
  have h2 := chain_len l c
  have : (chain l c).length * sizeL l ≤ 1008 * 1048576 := Nat.mul_le_mul (by omega) hs
  unfold fldsI; omega
end Go.Proofs
namespace Go.Proofs
open Go Go.Ev
/-- the digits of a number, ahead of a text -/
def mDig : Nat → Str → Str
  | 0, a => a
  | k + 1, a => mDig ((k + 1) / 10) (UInt8.ofNat (48 + (k + 1) % 10) :: a)
  termination_by k => k
  decreasing_by omega
def mText (k : Nat) : Str := if k = 0 then [109, 48] else 109 :: mDig k []
theorem mDig_go {k : Nat} {a : Str} (h : 0 < k) : mDig k a = mDig (k / 10) (UInt8.ofNat (48 + k % 10) :: a) := by
  obtain ⟨j, rfl⟩ : ∃ j, k = j + 1 := ⟨k - 1, by omega⟩
  rw [mDig]
theorem mDig_zero (a : Str) : mDig 0 a = a := by rw [mDig]
theorem mDig_len : ∀ (n k : Nat) (a : Str), k ≤ n → (mDig k a).length ≤ a.length + k
  | 0, k, a, h => by obtain rfl : k = 0 := by omega
                     rw [mDig_zero]; omega
  | n + 1, k, a, h => by
    rcases Nat.eq_zero_or_pos k with rfl | h0
    · rw [mDig_zero]; omega
    · rw [mDig_go h0]
      have := mDig_len n (k / 10) (UInt8.ofNat (48 + k % 10) :: a) (by omega)
      rw [List.length_cons] at this; omega
/-- a list of which some are marked -/
theorem mid_get (Y : List V) (x : V) (Z : List V) : atV (Y ++ x :: Z) Y.length = x := by simp [atV]
theorem mid_getD (Y : List V) (x : V) (Z : List V) : (Y ++ x :: Z)[Y.length]?.getD .junk = x := by simp
theorem mid_set (Y : List V) (x y : V) (Z : List V) : (Y ++ x :: Z).set Y.length y = Y ++ y :: Z := by simp
theorem mid_lt (Y : List V) (x : V) (Z : List V) : (Y.length < (Y ++ x :: Z).length) = True := by simp
theorem mid_next (Y : List V) (x : V) (Z : List V) : Y ++ x :: Z = (Y ++ [x]) ++ Z := by simp
/-- n marked things, each of which takes c numbers -/
def mks {α : Type} (f : Nat → α) (c : Nat) (k : Nat) : Nat → List α
  | 0 => []
  | n + 1 => f k :: mks f c (k + c) n
theorem mks_len {α : Type} {f : Nat → α} {c : Nat} : ∀ (n k : Nat), (mks f c k n).length = n
  | 0, _ => rfl
  | n + 1, k => by simp [mks, mks_len n]
theorem mks_succ {α : Type} {f : Nat → α} {c : Nat} : ∀ (n k : Nat), mks f c k (n + 1) = mks f c k n ++ [f (k + c * n)]
  | 0, k => by simp [mks]
  | n + 1, k => by
    rw [mks, mks_succ n (k + c), mks, List.cons_append]
    rw [show k + c + c * n = k + c * (n + 1) from by rw [Nat.mul_add]; omega]
theorem midG {Y : List V} {i : Nat} (h : Y.length = i) (x : V) (Z : List V) : (Y ++ x :: Z)[i]? = some x := by subst h; simp
theorem midS {Y : List V} {i : Nat} (h : Y.length = i) (x y : V) (Z : List V) : (Y ++ x :: Z).set i y = Y ++ y :: Z := by subst h; simp
def mkT (k : Nat) : Typ := ⟨k, mText (k + 1), ((k + 2 : Nat) : Int)⟩
def mkF (k : Nat) : Fld := ⟨mText k, mText (k + 1), decide ((k + 2) % 3 = 0)⟩
def mkI (k : Nat) : Ins := ⟨k, ((k + 1 : Nat) : Int), mText (k + 2), mText (k + 3), mText (k + 4)⟩
def mkH (k : Nat) : Hdl := ⟨k, ((k + 1 : Nat) : Int), ((k + 2 : Nat) : Int), mText (k + 3)⟩
end Go.Proofs
namespace Go.Proofs
open Go Go.Ev
theorem dig_wrap (j : Nat) : (IntKind.u8.wrap (IntKind.i64.wrap (48 + (j : Int).tmod 10))).toNat = 48 + j % 10 := by
  have e : (j : Int).tmod 10 = ((j % 10 : Nat) : Int) := by rw [Int.tmod_eq_emod_of_nonneg (by omega)]; omega
  rw [e, wrap_i64 (by omega) (by omega)]
  have : IntKind.u8.wrap (48 + ((j % 10 : Nat) : Int)) = 48 + ((j % 10 : Nat) : Int) := by
    unfold IntKind.wrap
    simp [IntKind.signed, IntKind.bits]
    omega
  rw [this]; omega
theorem mod3 (k : Nat) : decide ((k : Int).tmod 3 = 0) = decide (k % 3 = 0) := by
  have e : (k : Int).tmod 3 = ((k % 3 : Nat) : Int) := by rw [Int.tmod_eq_emod_of_nonneg (by omega)]; omega
  rw [e, Bool.eq_iff_iff]; simp; omega
/-- lists of plain things hold no id -/
theorem lim_map {α : Type} {e : α → V} (h : ∀ n x, (e x).lim n = true) (n : Nat) (l : List α) : limL n (l.map e) = true := by
  rw [limL_all]; simp [h]
@[simp] theorem lim_T (n : Nat) (l : List Typ) : limL n (l.map eT) = true := lim_map (fun n x => by simp [eT, V.lim, limL]) n l
@[simp] theorem lim_F (n : Nat) (l : List Fld) : limL n (l.map eF) = true := lim_map (fun n x => by simp [eF, V.lim, limL]) n l
@[simp] theorem lim_I (n : Nat) (l : List Ins) : limL n (l.map eI) = true := lim_map (fun n x => by simp [eI, V.lim, limL]) n l
@[simp] theorem lim_H (n : Nat) (l : List Hdl) : limL n (l.map eH) = true := lim_map (fun n x => by simp [eH, V.lim, limL]) n l
theorem mapL_mapf {α : Type} {e : α → V} (g : Nat → Option Nat) (h : ∀ x, (e x).mapId g = e x) (l : List α) : mapL g (l.map e) = l.map e := by
  rw [mapL_map, List.map_map]
  exact List.map_congr_left (fun x _ => h x)
@[simp] theorem mapL_T (g : Nat → Option Nat) (l : List Typ) : mapL g (l.map eT) = l.map eT := mapL_mapf g (fun _ => rfl) l
@[simp] theorem mapL_F (g : Nat → Option Nat) (l : List Fld) : mapL g (l.map eF) = l.map eF := mapL_mapf g (fun _ => rfl) l
@[simp] theorem mapL_I (g : Nat → Option Nat) (l : List Ins) : mapL g (l.map eI) = l.map eI := mapL_mapf g (fun _ => rfl) l
@[simp] theorem mapL_H (g : Nat → Option Nat) (l : List Hdl) : mapL g (l.map eH) = l.map eH := mapL_mapf g (fun _ => rfl) l
@[simp] theorem mapL_M (g : Nat → Option Nat) (l : List Mth) : mapL g (l.map oM) = l.map oM := mapL_mapf g (fun _ => rfl) l
@[simp] theorem mapL_C (g : Nat → Option Nat) (l : List Cls) : mapL g (l.map oC) = l.map oC := mapL_mapf g (fun _ => rfl) l
end Go.Proofs
namespace Go.Proofs
open Go Go.Ev
theorem mks_get {α : Type} {f : Nat → α} {c k n i : Nat} (h : i < n) (h' : i < (mks f c k n).length) : (mks f c k n)[i] = f (k + c * i) := by
  induction n generalizing k i with
  | zero => omega
  | succ n ih =>
    cases i with
    | zero => simp [mks]
    | succ i =>
      simp only [mks, List.getElem_cons_succ]
      rw [ih (by omega)]
      rw [show k + c + c * i = k + c * (i + 1) from by rw [Nat.mul_add]; omega]
structure FrO where
  f : Frm
  code : Int
  deriving DecidableEq, Inhabited
def eFo (x : FrO) : V := .agg [.lst false 3 (x.f.stack.map eT), .lst false 3 (x.f.locals.map eT), .int .i64 x.code]
def oFo (x : FrO) : V := .agg [.lst true 3 (x.f.stack.map eT), .lst true 3 (x.f.locals.map eT), .int .i64 x.code]
attribute [simp] eFo oFo
def zFo (c : Int) : FrO := ⟨⟨[], []⟩, c⟩
def bigFo (x : FrO) : Prop := x.f.stack.length < 4611686018427387904 ∧ x.f.locals.length < 4611686018427387904
/-- two lists of types, one by one -/
def lubLs (g : Typ → Typ → Typ) (a b : List Typ) : List Typ := List.zipWith g a b
theorem lubLs_len {g : Typ → Typ → Typ} {a b : List Typ} (h : a.length = b.length) : (lubLs g a b).length = a.length := by simp [lubLs, h]
theorem lubLs_snoc {g : Typ → Typ → Typ} {a b : List Typ} {i : Nat} (h : i < a.length) (e : a.length = b.length) :
    lubLs g (a.take (i + 1)) (b.take (i + 1)) = lubLs g (a.take i) (b.take i) ++ [g a[i] b[i]] := by
  unfold lubLs
  rw [List.take_succ_eq_append_getElem h, List.take_succ_eq_append_getElem (show i < b.length by omega), List.zipWith_append (by simp [e])]
  rfl
theorem lubLs_eq {l : List Cls} : ∀ {a b : List Typ}, a.all (knownT l) = true → b.all (knownT l) = true → lubLs (lubI l) a b = lubLs (lubT l) a b
  | [], _, _, _ => rfl
  | _ :: _, [], _, _ => rfl
  | x :: as', y :: bs, ha, hb => by
    simp only [List.all_cons, Bool.and_eq_true] at ha hb
    have := lubLs_eq ha.2 hb.2
    unfold lubLs at this ⊢
    simp only [List.zipWith_cons_cons]
    rw [lub_eq ha.1 hb.1, this]
def frmLubT (l : List Cls) (a b : Frm) : Frm := ⟨lubLs (lubT l) a.stack b.stack, lubLs (lubT l) a.locals b.locals⟩
def frmLubI (l : List Cls) (a b : Frm) : Frm := ⟨lubLs (lubI l) a.stack b.stack, lubLs (lubI l) a.locals b.locals⟩
theorem frmLub_eq {l : List Cls} {a b : Frm} (ha : frmR l a = true) (hb : frmR l b = true) : frmLubI l a b = frmLubT l a b := by
  simp only [frmR, Bool.and_eq_true] at ha hb
  unfold frmLubI frmLubT
  rw [lubLs_eq ha.2.2.1 hb.2.2.1, lubLs_eq ha.2.2.2 hb.2.2.2]
/-- the frame that two frames meet in -/
def frmLubW (l : List Cls) (a b : Frm) : FrO :=
  if 400 < l.length then zFo 2
  else if (frmRightW l a && (frmR l b && decide (a.locals.length = b.locals.length))) = true then
    (if a.stack.length = b.stack.length then ⟨frmLubT l a b, 0⟩ else zFo 11)
  else zFo 1
theorem frmR_len {l : List Cls} {f : Frm} (h : frmR l f = true) : f.stack.length ≤ 16 ∧ f.locals.length ≤ 16 := by
  simp only [frmR, Bool.and_eq_true, decide_eq_true_eq] at h
  exact ⟨h.1, h.2.1⟩
end Go.Proofs
namespace Go.Proofs
open Go Go.Ev
theorem mid_jk {p : Nat → Bool} {x : V} {Y Z : List V} (hY : jkL p Y = Y) (hZ : jkL p Z = Z) : jkL p (Y ++ x :: Z) = Y ++ x.jk p :: Z := by
  rw [jkL_map] at hY hZ ⊢
  rw [List.map_append, List.map_cons, hY, hZ]
@[simp] theorem lim_M (n : Nat) (l : List Mth) : limL n (l.map oM) = true := lim_map (fun n x => by simp [oM, V.lim, limL]) n l
@[simp] theorem lim_C (n : Nat) (l : List Cls) : limL n (l.map oC) = true := lim_map (fun n x => by simp [oC, V.lim, limL]) n l
theorem jk_oM (p : Nat → Bool) (l : List Mth) : jkL p (l.map oM) = l.map oM := jkL_mapf p oM (fun _ => rfl) l
theorem jk_oC (p : Nat → Bool) (l : List Cls) : jkL p (l.map oC) = l.map oC := jkL_mapf p oC (fun x => by simp [oC, V.pure, pureL]) l
def cntM (x : Mth) : Nat := 7 + 5 * x.code.length + 4 * x.hdls.length
def cntMs : List Mth → Nat
  | [] => 0
  | x :: l => cntM x + cntMs l
def mkM (k : Nat) (x : Mth) : Mth := ⟨mText k, mText (k + 1), decide ((k + 2) % 3 = 0), decide ((k + 3) % 3 = 0), decide ((k + 4) % 3 = 0), ((k + 5 : Nat) : Int), ((k + 6 : Nat) : Int), mks mkI 5 (k + 7) x.code.length, mks mkH 4 (k + 7 + 5 * x.code.length) x.hdls.length⟩
def mkMs (k : Nat) : List Mth → List Mth
  | [] => []
  | x :: l => mkM k x :: mkMs (k + cntM x) l
theorem cntMs_snoc : ∀ {l : List Mth} {i : Nat} (h : i < l.length), cntMs (l.take (i + 1)) = cntMs (l.take i) + cntM l[i]
  | x :: l, 0, _ => by simp [cntMs]
  | x :: l, i + 1, h => by
    have := cntMs_snoc (l := l) (i := i) (by simpa using h)
    simp only [List.take_succ_cons, cntMs, List.getElem_cons_succ]
    omega
theorem mkMs_snoc : ∀ {l : List Mth} {k i : Nat} (h : i < l.length), mkMs k (l.take (i + 1)) = mkMs k (l.take i) ++ [mkM (k + cntMs (l.take i)) l[i]]
  | x :: l, k, 0, _ => by simp [cntMs, mkMs]
  | x :: l, k, i + 1, h => by
    have := mkMs_snoc (l := l) (k := k + cntM x) (i := i) (by simpa using h)
    simp only [List.take_succ_cons, mkMs, cntMs, List.getElem_cons_succ, List.cons_append]
    rw [this, Nat.add_assoc]
theorem mkMs_len : ∀ {l : List Mth} {k : Nat}, (mkMs k l).length = l.length
  | [], _ => rfl
  | x :: l, k => by simp [mkMs, mkMs_len]
theorem take_mks {α : Type} {f : Nat → α} {e : α → V} {c k n : Nat} : ((mks f c k n).map e).take n = (mks f c k n).map e := List.take_of_length_le (by simp [mks_len])
theorem take_mkMs {l : List Mth} {k : Nat} : ((mkMs k l).map oM).take l.length = (mkMs k l).map oM := List.take_of_length_le (by simp [mkMs_len])
theorem cntMs_take : ∀ (l : List Mth) (i : Nat), cntMs (l.take i) ≤ cntMs l
  | [], i => by simp
  | x :: l, 0 => by simp [cntMs]
  | x :: l, i + 1 => by simp only [List.take_succ_cons, cntMs]; have := cntMs_take l i; omega
theorem cntMs_at (l : List Mth) (i : Nat) (h : i < l.length) : cntMs (l.take i) + cntM l[i] ≤ cntMs l := by
  rw [← cntMs_snoc h]; exact cntMs_take l _
def cntC (x : Cls) : Nat := 4 + 3 * x.fields.length + cntMs x.methods
def cntCs : List Cls → Nat
  | [] => 0
  | x :: l => cntC x + cntCs l
def mkC (k : Nat) (x : Cls) : Cls := ⟨mText k, mText (k + 1), decide ((k + 2) % 3 = 0), decide ((k + 3) % 3 = 0), mks mkF 3 (k + 4) x.fields.length, mkMs (k + 4 + 3 * x.fields.length) x.methods⟩
def mkCs (k : Nat) : List Cls → List Cls
  | [] => []
  | x :: l => mkC k x :: mkCs (k + cntC x) l
theorem cntCs_snoc : ∀ {l : List Cls} {i : Nat} (h : i < l.length), cntCs (l.take (i + 1)) = cntCs (l.take i) + cntC l[i]
  | x :: l, 0, _ => by simp [cntCs]
  | x :: l, i + 1, h => by
    have := cntCs_snoc (l := l) (i := i) (by simpa using h)
    simp only [List.take_succ_cons, cntCs, List.getElem_cons_succ]
    omega
theorem mkCs_snoc : ∀ {l : List Cls} {k i : Nat} (h : i < l.length), mkCs k (l.take (i + 1)) = mkCs k (l.take i) ++ [mkC (k + cntCs (l.take i)) l[i]]
  | x :: l, k, 0, _ => by simp [cntCs, mkCs]
  | x :: l, k, i + 1, h => by
    have := mkCs_snoc (l := l) (k := k + cntC x) (i := i) (by simpa using h)
    simp only [List.take_succ_cons, mkCs, cntCs, List.getElem_cons_succ, List.cons_append]
    rw [this, Nat.add_assoc]
theorem mkCs_len : ∀ {l : List Cls} {k : Nat}, (mkCs k l).length = l.length
  | [], _ => rfl
  | x :: l, k => by simp [mkCs, mkCs_len]
theorem cntCs_take : ∀ (l : List Cls) (i : Nat), cntCs (l.take i) ≤ cntCs l
  | [], i => by simp
  | x :: l, 0 => by simp [cntCs]
  | x :: l, i + 1 => by simp only [List.take_succ_cons, cntCs]; have := cntCs_take l i; omega
theorem cntCs_at (l : List Cls) (i : Nat) (h : i < l.length) : cntCs (l.take i) + cntC l[i] ≤ cntCs l := by
  rw [← cntCs_snoc h]; exact cntCs_take l _
theorem cntMs_len : ∀ l : List Mth, l.length ≤ cntMs l
  | [] => by simp
  | x :: l => by have := cntMs_len l; simp only [List.length_cons, cntMs, cntM]; omega
theorem cntCs_len : ∀ l : List Cls, l.length ≤ cntCs l
  | [] => by simp
  | x :: l => by have := cntCs_len l; simp only [List.length_cons, cntCs, cntC]; omega
theorem cntMs_size : ∀ l : List Mth, cntMs l ≤ 7 * (l.length + (l.map sizeM).sum)
  | [] => by simp [cntMs]
  | x :: l => by
    have := cntMs_size l
    simp only [List.length_cons, List.map_cons, List.sum_cons, cntMs, cntM, sizeM]; omega
theorem cntCs_size : ∀ l : List Cls, cntCs l ≤ 7 * (l.length + (l.map sizeC).sum)
  | [] => by simp [cntCs]
  | x :: l => by
    have := cntCs_size l
    have := cntMs_size x.methods
    simp only [List.length_cons, List.map_cons, List.sum_cons, cntCs, cntC, sizeC]; omega
theorem zip_le {g : Typ → Typ → Typ} {a b : List Typ} : (lubLs g a b).length ≤ a.length := by
  unfold lubLs; rw [List.length_zipWith]; omega
theorem frmLubW_len (l : List Cls) (a b : Frm) : (frmLubW l a b).f.stack.length ≤ a.stack.length ∧ (frmLubW l a b).f.locals.length ≤ a.locals.length := by
  unfold frmLubW
  split
  · simp [zFo]
  · split
    · split
      · exact ⟨zip_le, zip_le⟩
      · simp [zFo]
    · simp [zFo]
attribute [simp] Go.Ev.seen
theorem solidL_mapf {α : Type} {f : α → V} (h : ∀ x, (f x).solid = true) : ∀ l : List α, solidL (l.map f) = true
  | [] => rfl
  | x :: l => by simp [solidL, h x, solidL_mapf h l]
@[simp] theorem solidL_T (l : List Typ) : solidL (l.map eT) = true := solidL_mapf (fun _ => rfl) l
theorem bigFo_lub {l : List Cls} {a b : Frm} (h : bigFr a) : bigFo (frmLubW l a b) := by
  have := frmLubW_len l a b
  exact ⟨Nat.lt_of_le_of_lt this.1 h.1, Nat.lt_of_le_of_lt this.2 h.2.2.1⟩
@[simp] theorem nn5 {a b c d e : Nat} : (0 ≤ 1 + (a : Int) + 3 * (b : Int) + 3 * (c : Int) + 3 * (d : Int) + 3 * (e : Int)) = True := by simp; omega
attribute [simp] mks_len take_mks mkMs_len take_mkMs
end Go.Proofs
namespace Go.Proofs
open Go Go.Ev
def mkV (k : Nat) : Vl := ⟨k, ((k + 1 : Nat) : Int)⟩
@[simp] theorem lim_Vl (n : Nat) (l : List Vl) : limL n (l.map eVl) = true := lim_map (fun n x => by simp [eVl, V.lim, limL]) n l
@[simp] theorem lim_Ob (n : Nat) (l : List HOb) : limL n (l.map oOb) = true := lim_map (fun n x => by simp [oOb, V.lim, limL]) n l
@[simp] theorem mapL_Vl (g : Nat → Option Nat) (l : List Vl) : mapL g (l.map eVl) = l.map eVl := mapL_mapf g (fun _ => rfl) l
@[simp] theorem mapL_Ob (g : Nat → Option Nat) (l : List HOb) : mapL g (l.map oOb) = l.map oOb := mapL_mapf g (fun _ => rfl) l
@[simp] theorem solidL_Vl (l : List Vl) : solidL (l.map eVl) = true := solidL_mapf (fun _ => rfl) l
@[simp] theorem solidL_Ob (l : List HOb) : solidL (l.map oOb) = true := solidL_mapf (fun x => by simp [oOb, V.solid, solidL]) l
theorem jk_oOb (p : Nat → Bool) (l : List HOb) : jkL p (l.map oOb) = l.map oOb := jkL_mapf p oOb (fun x => by simp [oOb, V.pure, pureL]) l
def cntO (x : HOb) : Nat := 3 + 2 * x.vals.length
def cntOs : List HOb → Nat
  | [] => 0
  | x :: l => cntO x + cntOs l
def mkO (k : Nat) (x : HOb) : HOb := ⟨k, mText (k + 1), decide ((k + 2) % 3 = 0), mks mkV 2 (k + 3) x.vals.length⟩
def mkOs (k : Nat) : List HOb → List HOb
  | [] => []
  | x :: l => mkO k x :: mkOs (k + cntO x) l
theorem cntOs_snoc : ∀ {l : List HOb} {i : Nat} (h : i < l.length), cntOs (l.take (i + 1)) = cntOs (l.take i) + cntO l[i]
  | x :: l, 0, _ => by simp [cntOs]
  | x :: l, i + 1, h => by
    have := cntOs_snoc (l := l) (i := i) (by simpa using h)
    simp only [List.take_succ_cons, cntOs, List.getElem_cons_succ]
    omega
theorem mkOs_snoc : ∀ {l : List HOb} {k i : Nat} (h : i < l.length), mkOs k (l.take (i + 1)) = mkOs k (l.take i) ++ [mkO (k + cntOs (l.take i)) l[i]]
  | x :: l, k, 0, _ => by simp [cntOs, mkOs]
  | x :: l, k, i + 1, h => by
    have := mkOs_snoc (l := l) (k := k + cntO x) (i := i) (by simpa using h)
    simp only [List.take_succ_cons, mkOs, cntOs, List.getElem_cons_succ, List.cons_append]
    rw [this, Nat.add_assoc]
theorem mkOs_len : ∀ {l : List HOb} {k : Nat}, (mkOs k l).length = l.length
  | [], _ => rfl
  | x :: l, k => by simp [mkOs, mkOs_len]
theorem take_mkOs {l : List HOb} {k : Nat} : ((mkOs k l).map oOb).take l.length = (mkOs k l).map oOb := List.take_of_length_le (by simp [mkOs_len])
theorem cntOs_take : ∀ (l : List HOb) (i : Nat), cntOs (l.take i) ≤ cntOs l
  | [], i => by simp
  | x :: l, 0 => by simp [cntOs]
  | x :: l, i + 1 => by simp only [List.take_succ_cons, cntOs]; have := cntOs_take l i; omega
theorem cntOs_at (l : List HOb) (i : Nat) (h : i < l.length) : cntOs (l.take i) + cntO l[i] ≤ cntOs l := by
  rw [← cntOs_snoc h]; exact cntOs_take l _
theorem cntOs_len : ∀ (l : List HOb), l.length ≤ cntOs l
  | [] => Nat.le_refl _
  | x :: l => by simp only [List.length_cons, cntOs, cntO]; have := cntOs_len l; omega
theorem cntOs_size : ∀ (l : List HOb), cntOs l ≤ 3 * l.length + 2 * (l.map sizeOb).sum
  | [] => Nat.zero_le _
  | x :: l => by simp only [List.length_cons, cntOs, cntO, List.map_cons, List.sum_cons, sizeOb]; have := cntOs_size l; omega
theorem mkOs_get : ∀ {l : List HOb} {k i : Nat} (h : i < (mkOs k l).length), (mkOs k l)[i] = mkO (k + cntOs (l.take i)) (l[i]'(by rw [mkOs_len] at h; exact h))
  | x :: l, k, 0, _ => by simp [mkOs, cntOs]
  | x :: l, k, i + 1, h => by
    have := mkOs_get (l := l) (k := k + cntO x) (i := i) (by simpa [mkOs] using h)
    simp only [mkOs, List.getElem_cons_succ, List.take_succ_cons, cntOs]
    rw [this, Nat.add_assoc]
attribute [simp] mkOs_len take_mkOs
theorem cntOs_app : ∀ (a b : List HOb), cntOs (a ++ b) = cntOs a + cntOs b
  | [], b => by simp [cntOs]
  | x :: a, b => by simp only [List.cons_append, cntOs, cntOs_app a b]; omega
theorem cntOs_hp {h : Hep} (ho : sizeHp h ≤ 1048576) : cntOs h.objs ≤ 5242880 := by
  have := cntOs_size h.objs
  unfold sizeHp at ho; omega
theorem bigHp_of {h : Hep} (ho : sizeHp h ≤ 1048576) : bigHp h := by
  refine ⟨by unfold sizeHp at ho; omega, fun y hy => ?_⟩
  have := mem_sum (f := sizeOb) hy
  unfold sizeHp at ho
  have h2 : y.cls.length + y.vals.length = sizeOb y := rfl
  exact ⟨by omega, by omega⟩
theorem bigHp_add {h : Hep} {o : HOb} (h1 : sizeHp h ≤ 1048576) (h2 : bigOb o) : bigHp (addO h o).h := by
  have hb := bigHp_of h1
  refine ⟨by simp only [addO, List.length_append, List.length_singleton]; unfold sizeHp at h1; omega, fun y hy => ?_⟩
  simp only [addO, List.mem_append, List.mem_singleton] at hy
  rcases hy with hy | rfl
  · exact hb.2 y hy
  · exact h2
theorem bigHp_z (c : Int) : bigHp (zHo c).h := ⟨by simp [zHo], by simp [zHo]⟩
theorem makeW_big {l : List Cls} {h : Hep} {c : Str} (hs : sizeL l ≤ 1048576) (ho : sizeHp h ≤ 1048576) (hc : c.length ≤ 1048576) : bigHp (makeW l h c).h ∧ cntOs (makeW l h c).h.objs ≤ 52428800 := by
  have z : ∀ c, bigHp (zHo c).h ∧ cntOs (zHo c).h.objs ≤ 52428800 := fun c => ⟨bigHp_z c, by simp [zHo, cntOs]⟩
  unfold makeW
  split
  · exact z _
  · split
    · rename_i hr
      split
      · split
        · exact z _
        · have hf := flds_len (n := c) (right_world hr).1
          have hn : (newO l c).vals.length ≤ 18874368 := by simp only [newO, List.length_map]; omega
          refine ⟨bigHp_add ho ⟨by simp only [newO]; omega, by omega⟩, ?_⟩
          have := cntOs_hp ho
          simp only [addO, cntOs_app, cntOs, cntO]; omega
      · exact z _
    · exact z _
@[simp] theorem nn2 {a b : Nat} : (0 ≤ 1 + (a : Int) + (b : Int)) = True := by simp; omega
end Go.Proofs
namespace Go.Proofs
open Go Go.Ev
theorem list_cond (l : List Cls) (d : Str) : ((decide (d = [73]) || (typeRight d && isAt d 0 76)) && (decide (d = [73]) || isKnown l (typeClass d))) = (typeRight d && (!isAt d 0 91 && typeK l d)) := by
  have hp := plainType d
  by_cases h1 : d = [73]
  · subst h1
    have h2 : typeRight [73] = true := by decide
    have h3 : typeClass [73] = [] := typeClass_no (fun _ => .inl rfl)
    rw [h2, typeK, h3]; rfl
  · rw [decide_eq_false h1, Bool.false_or, Bool.false_or]
    cases hr : typeRight d
    · rfl
    · by_cases h91 : isAt d 0 91 = true
      · have h76 : isAt d 0 76 = false := by
          cases h76 : isAt d 0 76
          · rfl
          · simp only [isAt] at h91 h76
            cases hd : d[0]? with
            | none => rw [hd] at h91; simp at h91
            | some x =>
              rw [hd] at h91 h76
              simp at h91 h76
              omega
        rw [h76, h91]; rfl
      · have h91 : isAt d 0 91 = false := by simpa using h91
        have h2 : d ≠ [91, 73] := fun e => by rw [e] at h91; cases h91
        obtain ⟨g1, _, g3⟩ := typeClass_eq hr h1 h2
        have h4 : typeClass d ≠ [] := by
          rw [g3, if_neg (by simp [h91])]
          intro e
          have := congrArg List.length e
          simp [seg] at this
          omega
        have h76 : isAt d 0 76 = true := by
          rw [hr, h91, decide_eq_false h1] at hp
          simpa using hp.symm
        rw [h76, h91, typeK, decide_eq_false h4]; rfl
theorem listO_big {d : Str} {n : Nat} (hd : d.length ≤ 1048576) (hn : n ≤ 50) : bigOb (listO d n) ∧ (listO d n).vals.length ≤ 50 := by
  have hc : (typeClass d).length ≤ d.length := by
    by_cases h : typeRight d = true
    · by_cases h1 : d = [73]
      · subst h1; rw [typeClass_no (fun _ => .inl rfl)]; simp
      · by_cases h2 : d = [91, 73]
        · subst h2; rw [typeClass_no (fun _ => .inr rfl)]; simp
        · rw [(typeClass_eq h h1 h2).2.2]; split <;> (simp [seg]; try omega)
    · rw [typeClass_no (fun e => absurd e h)]; simp
  unfold listO
  split
  · exact ⟨⟨by simp, by simp; omega⟩, by simpa using hn⟩
  · exact ⟨⟨by simp only; omega, by simp; omega⟩, by simpa using hn⟩
theorem listW_big {l : List Cls} {h : Hep} {d : Str} {n : Int} (ho : sizeHp h ≤ 1048576) (hd : d.length ≤ 1048576) : bigHp (listW l h d n).h ∧ cntOs (listW l h d n).h.objs ≤ 52428800 := by
  have z : ∀ c, bigHp (zHo c).h ∧ cntOs (zHo c).h.objs ≤ 52428800 := fun c => ⟨bigHp_z c, by simp [zHo, cntOs]⟩
  unfold listW
  split
  · exact z _
  · split
    · split
      · exact z _
      · rename_i hn
        split
        · exact z _
        · obtain ⟨b1, b2⟩ := listO_big (n := n.toNat) hd (by omega)
          refine ⟨bigHp_add ho b1, ?_⟩
          have := cntOs_hp ho
          simp only [addO, cntOs_app, cntOs, cntO]; omega
    · exact z _
end Go.Proofs
namespace Go.Proofs
open Go Go.Ev
attribute [simp] borTL V.borT bor3L borTL_append
theorem borTL_mapf {α : Type} {f e : α → V} {ob : List Ob} {g : List V → List V} (h : ∀ x, (f x).borT ob g = e x) (l : List α) : borTL ob g (l.map f) = l.map e := by simp [borTL_map, h]
section
variable {X : Ctx} {ops : Array Oper} {rest : List Oper} {st s1 s2 : St} {o : Oper}
theorem jB3 {fo : Operand} {as' : Array Operand} {ts : Array TypeId} {f : FuncId} {first cap args' : List V} {r : V}
    (ho : o.op = .call { callee := .value fo, args := as', argTypes := ts } := by rfl) (hg : gd ops st o.guard = some true := by simp) (hf : val st fo = .clo (.func f) first cap := by rfl)
    (ha : bor3L st.ob (first ++ as'.toList.map (val st) ++ cap) = args' := by simp; rfl) (c : Ct Tryz.prog f args' [] r []) (a : Callable Tryz.prog f) (hsol : r.solid = true := by simp) (he : (⟨setD o.dst (nameV st.ob r).1 st.tm, (nameV st.ob r).2⟩ : St) = s1 := by simp; rfl) (k : Runs Tryz.prog X ops rest s1 s2) : Runs Tryz.prog X ops (o :: rest) st s2 :=
  Runs.callB3 ho hg hf ha c a hsol he k
end
end Go.Proofs
namespace Go.Proofs
open Go Go.Ev
theorem Ct.wkA {P : Program} {f : FuncId} {args args' : List V} {ob ob' : List Ob} {r : V} (h : WkL args' args) (c : Ct P f args ob r ob') : Ct P f args' ob r ob' := fun w fr m cn us h1 h2 h3 => c w fr m cn us h1 h2 (h _ _ _ _ _ h3)
@[simp] theorem borTL_eVl (ob : List Ob) (g : List V → List V) (l : List Vl) : borTL ob g (l.map eVl) = l.map eVl := borTL_mapf (fun _ => rfl) l
theorem midA {Y : List V} {i : Nat} (h : Y.length = i) (x : V) (Z : List V) : atV (Y ++ x :: Z) i = x := by subst h; exact mid_get Y x Z
theorem obs_split {α : Type} {l : List α} {j : Nat} (h : j < l.length) (f : α → V) : l.map f = (l.take j).map f ++ f l[j] :: (l.drop (j + 1)).map f := by
  have e : l = l.take j ++ l[j] :: l.drop (j + 1) := by rw [← List.drop_eq_getElem_cons h, List.take_append_drop]
  conv => lhs; rw [e]
  rw [List.map_append, List.map_cons]
theorem obs_set {α : Type} {l : List α} {j : Nat} (h : j < l.length) (f : α → V) (x : α) : (l.set j x).map f = (l.take j).map f ++ f x :: (l.drop (j + 1)).map f := by
  rw [List.set_eq_take_append_cons_drop, if_pos h]; simp
theorem place_at {h : Hep} {j : Nat} (ho : sizeHp h ≤ 1048576) (hj : j < h.objs.length) : IntKind.i64.wrap (j : Int) = j ∧ IntKind.i64.wrap ((h.objs[j].vals.length : Int) - 1) = h.objs[j].vals.length - 1 ∧ hasR h ((j : Int) + 1) = true := by
  have hl : h.objs.length ≤ 1048576 := by unfold sizeHp at ho; omega
  have hv : h.objs[j].vals.length ≤ 1048576 := by
    have := Nat.le_trans (sizeHp_at hj) ho
    unfold sizeOb at this; omega
  exact ⟨wrap_i64 (by omega) (by omega), wrap_i64 (by omega) (by omega), by unfold hasR; rw [decide_eq_true_eq]; omega⟩
theorem place_no {h : Hep} {a p : Int} (hn : placeR h a p = false) : hasR h a = false ∨ ∃ (j : Nat) (hj : j < h.objs.length), a = (j : Int) + 1 ∧ ¬ (0 ≤ p ∧ p < (h.objs[j].vals.length : Int)) := by
  rw [placeR, Bool.and_eq_false_iff] at hn
  rcases hn with hn | hn
  · exact .inl hn
  · cases hh : hasR h a
    · exact .inl rfl
    · right
      simp only [hasR, decide_eq_true_eq] at hh
      have hj : (a - 1).toNat < h.objs.length := by omega
      rw [atL_lt hj] at hn
      exact ⟨_, hj, by omega, by simpa using hn⟩
theorem obs_YZ {l : List HOb} {j : Nat} (hj : j < l.length) : ∃ Y Z, l.map oOb = Y ++ oOb l[j] :: Z ∧ (∀ x, (l.set j x).map oOb = Y ++ oOb x :: Z) ∧ Y.length = j ∧ j + (Z.length + 1) = l.length ∧ (∀ g, mapL g Y = Y) ∧ (∀ g, mapL g Z = Z) ∧ (∀ n, limL n Y = true) ∧ (∀ n, limL n Z = true) ∧
    (∀ p, jkL p Y = Y) ∧ (∀ p, jkL p Z = Z) ∧ pureL Y = true ∧ pureL Z = true ∧ ∃ Y' Z', (∀ ob g, borTL ob g Y = Y') ∧ (∀ ob g, borTL ob g Z = Z') ∧ Y' ++ eOb l[j] :: Z' = l.map eOb :=
  ⟨(l.take j).map oOb, (l.drop (j + 1)).map oOb, obs_split hj oOb, fun x => obs_set hj oOb x, by rw [List.length_map, List.length_take]; omega, by rw [List.length_map, List.length_drop]; omega, fun g => mapL_Ob g _, fun g => mapL_Ob g _,
    fun n => lim_Ob n _, fun n => lim_Ob n _, fun p => jkL_oOb p _, fun p => jkL_oOb p _, pureL_oOb _, pureL_oOb _, _, _, fun ob g => borTL_mapf (fun _ => by simp [oOb, eOb]) _, fun ob g => borTL_mapf (fun _ => by simp [oOb, eOb]) _, (obs_split hj eOb).symm⟩
theorem place_cs (h : Hep) (a : Int) : ¬ 1 ≤ a ∨ (1 ≤ a ∧ ¬ a ≤ (h.objs.length : Int)) ∨ ∃ (j : Nat) (_ : j < h.objs.length), a = (j : Int) + 1 := by
  by_cases h1 : 1 ≤ a
  · by_cases h2 : a ≤ (h.objs.length : Int)
    · exact .inr (.inr ⟨(a - 1).toNat, by omega, by omega⟩)
    · exact .inr (.inl ⟨h1, h2⟩)
  · exact .inl h1
theorem placeR_iff {h : Hep} {a p : Int} (hp : placeR h a p = true) : ∃ (j q : Nat) (hj : j < h.objs.length), a = (j : Int) + 1 ∧ p = q ∧ q < h.objs[j].vals.length := by
  simp only [placeR, hasR, Bool.and_eq_true, decide_eq_true_eq] at hp
  obtain ⟨⟨h1, h2⟩, h3, h4⟩ := hp
  have hj : (a - 1).toNat < h.objs.length := by omega
  rw [atL_lt hj] at h4
  exact ⟨(a - 1).toNat, p.toNat, hj, by omega, by omega, by omega⟩
theorem getW_big {l : List Cls} {h : Hep} {a p : Int} (ho : sizeHp h ≤ 1048576) : bigHp (getW l h a p).h ∧ cntOs (getW l h a p).h.objs ≤ 52428800 := by
  have z : ∀ c, bigHp (zHo c).h ∧ cntOs (zHo c).h.objs ≤ 52428800 := fun c => ⟨bigHp_z c, by simp [zHo, cntOs]⟩
  have h0 := cntOs_hp ho
  unfold getW
  split
  · exact z _
  · split
    · split
      · exact ⟨bigHp_of ho, by simp only; omega⟩
      · exact z _
    · exact z _
theorem map_setV {l : List Vl} {q : Nat} {v : Vl} : (l.map eVl).set q (.agg [.int .i64 v.kind, .int .i64 v.n]) = (l.set q v).map eVl := by rw [List.map_set]; rfl
def mayS (l : List Cls) (h : Hep) (o : HOb) (v : Vl) : Bool :=
  if o.kind = 2 then decide (v.kind = 1) else if o.kind = 3 then decide (v.kind = 2) || (decide (v.kind = 3) && heapIsS l h v.n o.cls) else true
theorem may_eq {l : List Cls} {h : Hep} {o : HOb} {v : Vl} (hw : rightW l = true) (hr : hpR l h = true) (hv : valR h.objs.length v = true) : mayS l h o v = mayI l h o v := by
  unfold mayS mayI
  by_cases h3 : v.kind = 3
  · have hh : hasR h v.n = true := by
      unfold valR at hv
      rw [if_neg (by omega), if_neg (by omega), if_pos h3] at hv
      unfold hasR; exact hv
    rw [hh, heapIs_eq hw hr hh]; simp
  · simp [h3]
theorem putW_big {l : List Cls} {h : Hep} {a p : Int} {v : Vl} (ho : sizeHp h ≤ 1048576) : bigHp (putW l h a p v).h ∧ cntOs (putW l h a p v).h.objs ≤ 52428800 := by
  have z : ∀ c, bigHp (zHo c).h ∧ cntOs (zHo c).h.objs ≤ 52428800 := fun c => ⟨bigHp_z c, by simp [zHo, cntOs]⟩
  unfold putW
  split
  · exact z _
  · split
    · split
      · rename_i hp
        split
        · obtain ⟨j, q, hj, rfl, rfl, hq⟩ := placeR_iff hp
          have hjn : ((j : Int) + 1 - 1).toNat = j := by omega
          have hb := bigHp_of ho
          have hsz : ∀ (o o' : HOb), o'.vals.length = o.vals.length → o'.cls = o.cls → ∀ (os : List HOb) (i : Nat), os[i]? = some o → cntOs (os.set i o') = cntOs os := by
            intro o o' hl hc os
            induction os with
            | nil => intro i hi; simp at hi
            | cons x os ih =>
              intro i hi
              cases i with
              | zero => simp at hi; subst hi; simp [cntOs, cntO, hl]
              | succ i => simp at hi; simp [cntOs, ih i hi]
          simp only [putAt, hjn, Int.toNat_natCast, atL_lt hj]
          refine ⟨⟨by simpa using hb.1, fun y hy => ?_⟩, ?_⟩
          · rcases List.mem_or_eq_of_mem_set hy with hy | rfl
            · exact hb.2 y hy
            · have := hb.2 _ (List.getElem_mem hj)
              exact ⟨this.1, by simpa using this.2⟩
          · have e9 := hsz h.objs[j] { h.objs[j] with vals := h.objs[j].vals.set q v } (by simp) rfl h.objs j (List.getElem?_eq_getElem hj)
            have := cntOs_hp ho
            rw [e9]; omega
        · exact z _
      · exact z _
    · exact z _
end Go.Proofs
namespace Go.Proofs
open Go Go.Ev


theorem cb_laws_szField : Callable Tryz.prog 120 := ⟨_, Tryz.func120, by kernel_rfl, by kernel_rfl⟩
theorem ct_laws_szField {x : Fld} {z : Int} (h : bigF x) (h0 : 0 ≤ z) (h1 : z ≤ 1099511627776) : Ct Tryz.prog 120 [eF x, .int .i64 z] [] (.int .i64 (sub z (sizeF x))) [] := by
  simp only [bigF] at h
  obtain ⟨g0, g1⟩ := h
  refine Ct_bodyS tok Tryz.func120 rfl 20 (by kernel_rfl) (by kernel_rfl) fun X hX => ?_
  refine jq [1, 2] ?_
  refine W_rseqK [1, 2] (jh hX (by simp; (try (simp (disch := omega) only [wrap_i64]; (try simp))); rfl)) ?_
  refine W_seq (jq [1, 2, 11] ?_)
  refine jd (fun h2 => ?_) (fun h2 => ?_)
  · try simp at h2
    refine jq [4] ?_
    refine W_ret (je (by simp [h2]; rfl) ?_)
    simp [sub, sizeF] at *; omega
  · try simp at h2
    refine W_skip (W_rseqK [1] (jh hX (by simp [h2]; (try (simp (disch := omega) only [wrap_i64]; (try simp [h2]))); rfl)) ?_)
    refine W_seq (jq [1, 18] ?_)
    refine jd (fun h5 => ?_) (fun h5 => ?_)
    · try simp at h5
      refine jq [4] ?_
      refine W_ret (je (by simp [h2, h5]; rfl) ?_)
      simp [sub, sizeF] at *; omega
    · try simp at h5
      refine W_skip (jq [4] ?_)
      refine W_ret (je (by simp [h2, h5]; rfl) ?_)
      simp [sub, sizeF] at *; omega
end Go.Proofs
namespace Go.Proofs
open Go Go.Ev


theorem cb_laws_szFieldS : Callable Tryz.prog 71 := ⟨_, Tryz.func71, by kernel_rfl, by kernel_rfl⟩
theorem ct_laws_szFieldS {l : List Fld} {z : Int} (h : l.length < 4611686018427387904) (hb : ∀ y ∈ l, bigF y) (h0 : 0 ≤ z) (h1 : z ≤ 1099511627776) : Ct Tryz.prog 71 [.lst false 3 (l.map eF), .int .i64 z] [] (.int .i64 (sub z (l.length + (l.map sizeF).sum))) [] := by
  refine Ct_bodyS tok Tryz.func71 rfl 27 (by kernel_rfl) (by kernel_rfl) fun X hX => ?_
  refine jq [0, 1] ?_
  refine W_rseqK [0, 1] (jh hX (by simp; (try (simp (disch := omega) only [wrap_i64]; (try simp))); rfl)) ?_
  refine W_seq (jq [0, 1, 11] ?_)
  refine jd (fun h2 => ?_) (fun h2 => ?_)
  · try simp at h2
    refine jq [4] ?_
    refine W_ret (je (by simp [h2]; rfl) ?_)
    grind [sub]
  · try simp at h2
    refine W_skip (W_seq (jq [0, 1, 5] ?_))
    refine W_block (W_loopU (α := Nat × Int) [0, 1, 5] (fun p => [(1, .int .i64 p.2), (5, .int .i64 p.1)]) (fun p => []) (fun p => p.1 ≤ l.length ∧ 0 ≤ p.2 ∧ p.2 ≤ 1099511627776 ∧ sub p.2 ((l.drop p.1).map sizeF).sum = sub z (l.length + (l.map sizeF).sum)) (fun p => l.length - p.1) ((0, z - l.length)) (fun p => by simp; rfl) (by simp) ?_ ?_)
    · exact ⟨by simp, by simp; omega, by simp; omega, by simp [sub]; grind⟩
    rintro ⟨i, y⟩ ⟨hi, hy0, hy1, hI⟩
    simp only at hi hy0 hy1 hI
    refine W_seq (W_rseqK [0, 1, 5, 15] (jh hX (by simp [h2]; rfl)) ?_)
    refine jd (fun h5 => ?_) (fun h5 => ?_)
    · try simp at h5
      rw [List.drop_eq_getElem_cons h5] at hI
      simp only [List.map_cons, List.sum_cons] at hI
      refine W_skip (W_seq (W_block (W_rseqK [0, 1, 5] (js hX 5 (by simp [h2, h5]; rfl) (jc [] (c:=(by apply ct_laws_szField <;> first | assumption | omega | exact hb _ (List.getElem_mem _))) (a:=cb_laws_szField) (k:=jr))) ?_)))
      refine jq [0, 1, 5, 25] ?_
      refine jd (fun h8 => ?_) (fun h8 => ?_)
      · try simp at h8
        refine jq [4] ?_
        refine W_ret (je (by simp [h2, h5, h8]; rfl) ?_)
        grind [sub]
      · try simp at h8
        refine W_skip (W_reg (jh hX (by simp; (try (simp (disch := omega) only [wrap_i64]; (try simp))); rfl)) ?_)
        refine round_end ((i + 1, sub y (sizeF l[i]))) [0, 1, 5] (by simp [h2, h5, h8]; try (simp (disch := omega) only [wrap_i64])) ?_ ?_
        · exact ⟨by simp; omega, by simp; grind [sub], by simp; grind [sub], by grind [sub]⟩
        · simp; omega
    · try simp at h5
      refine W_exit (jq [4] ?_)
      refine W_ret (je (by simp [h2, h5]; rfl) ?_)
      grind [sub]
end Go.Proofs
namespace Go.Proofs
open Go Go.Ev


theorem cb_laws_szIns : Callable Tryz.prog 212 := ⟨_, Tryz.func212, by kernel_rfl, by kernel_rfl⟩
theorem ct_laws_szIns {x : Ins} {z : Int} (h : bigI x) (h0 : 0 ≤ z) (h1 : z ≤ 1099511627776) : Ct Tryz.prog 212 [eI x, .int .i64 z] [] (.int .i64 (sub z (sizeI x))) [] := by
  simp only [bigI] at h
  obtain ⟨g0, g1, g2⟩ := h
  refine Ct_bodyS tok Tryz.func212 rfl 27 (by kernel_rfl) (by kernel_rfl) fun X hX => ?_
  refine jq [1, 2] ?_
  refine W_rseqK [1, 2] (jh hX (by simp; (try (simp (disch := omega) only [wrap_i64]; (try simp))); rfl)) ?_
  refine W_seq (jq [1, 2, 11] ?_)
  refine jd (fun h2 => ?_) (fun h2 => ?_)
  · try simp at h2
    refine jq [4] ?_
    refine W_ret (je (by simp [h2]; rfl) ?_)
    simp [sub, sizeI] at *; omega
  · try simp at h2
    refine W_skip (W_rseqK [1, 2] (jh hX (by simp [h2]; (try (simp (disch := omega) only [wrap_i64]; (try simp [h2]))); rfl)) ?_)
    refine W_seq (jq [1, 2, 18] ?_)
    refine jd (fun h5 => ?_) (fun h5 => ?_)
    · try simp at h5
      refine jq [4] ?_
      refine W_ret (je (by simp [h2, h5]; rfl) ?_)
      simp [sub, sizeI] at *; omega
    · try simp at h5
      refine W_skip (W_rseqK [1] (jh hX (by simp [h2, h5]; (try (simp (disch := omega) only [wrap_i64]; (try simp [h2, h5]))); rfl)) ?_)
      refine W_seq (jq [1, 25] ?_)
      refine jd (fun h8 => ?_) (fun h8 => ?_)
      · try simp at h8
        refine jq [4] ?_
        refine W_ret (je (by simp [h2, h5, h8]; rfl) ?_)
        simp [sub, sizeI] at *; omega
      · try simp at h8
        refine W_skip (jq [4] ?_)
        refine W_ret (je (by simp [h2, h5, h8]; rfl) ?_)
        simp [sub, sizeI] at *; omega
end Go.Proofs
namespace Go.Proofs
open Go Go.Ev


theorem cb_laws_szInsS : Callable Tryz.prog 173 := ⟨_, Tryz.func173, by kernel_rfl, by kernel_rfl⟩
theorem ct_laws_szInsS {l : List Ins} {z : Int} (h : l.length < 4611686018427387904) (hb : ∀ y ∈ l, bigI y) (h0 : 0 ≤ z) (h1 : z ≤ 1099511627776) : Ct Tryz.prog 173 [.lst false 5 (l.map eI), .int .i64 z] [] (.int .i64 (sub z (l.length + (l.map sizeI).sum))) [] := by
  refine Ct_bodyS tok Tryz.func173 rfl 27 (by kernel_rfl) (by kernel_rfl) fun X hX => ?_
  refine jq [0, 1] ?_
  refine W_rseqK [0, 1] (jh hX (by simp; (try (simp (disch := omega) only [wrap_i64]; (try simp))); rfl)) ?_
  refine W_seq (jq [0, 1, 11] ?_)
  refine jd (fun h2 => ?_) (fun h2 => ?_)
  · try simp at h2
    refine jq [4] ?_
    refine W_ret (je (by simp [h2]; rfl) ?_)
    grind [sub]
  · try simp at h2
    refine W_skip (W_seq (jq [0, 1, 5] ?_))
    refine W_block (W_loopU (α := Nat × Int) [0, 1, 5] (fun p => [(1, .int .i64 p.2), (5, .int .i64 p.1)]) (fun p => []) (fun p => p.1 ≤ l.length ∧ 0 ≤ p.2 ∧ p.2 ≤ 1099511627776 ∧ sub p.2 ((l.drop p.1).map sizeI).sum = sub z (l.length + (l.map sizeI).sum)) (fun p => l.length - p.1) ((0, z - l.length)) (fun p => by simp; rfl) (by simp) ?_ ?_)
    · exact ⟨by simp, by simp; omega, by simp; omega, by simp [sub]; grind⟩
    rintro ⟨i, y⟩ ⟨hi, hy0, hy1, hI⟩
    simp only at hi hy0 hy1 hI
    refine W_seq (W_rseqK [0, 1, 5, 15] (jh hX (by simp [h2]; rfl)) ?_)
    refine jd (fun h5 => ?_) (fun h5 => ?_)
    · try simp at h5
      rw [List.drop_eq_getElem_cons h5] at hI
      simp only [List.map_cons, List.sum_cons] at hI
      refine W_skip (W_seq (W_block (W_rseqK [0, 1, 5] (js hX 5 (by simp [h2, h5]; rfl) (jc [] (c:=(by apply ct_laws_szIns <;> first | assumption | omega | exact hb _ (List.getElem_mem _))) (a:=cb_laws_szIns) (k:=jr))) ?_)))
      refine jq [0, 1, 5, 25] ?_
      refine jd (fun h8 => ?_) (fun h8 => ?_)
      · try simp at h8
        refine jq [4] ?_
        refine W_ret (je (by simp [h2, h5, h8]; rfl) ?_)
        grind [sub]
      · try simp at h8
        refine W_skip (W_reg (jh hX (by simp; (try (simp (disch := omega) only [wrap_i64]; (try simp))); rfl)) ?_)
        refine round_end ((i + 1, sub y (sizeI l[i]))) [0, 1, 5] (by simp [h2, h5, h8]; try (simp (disch := omega) only [wrap_i64])) ?_ ?_
        · exact ⟨by simp; omega, by simp; grind [sub], by simp; grind [sub], by grind [sub]⟩
        · simp; omega
    · try simp at h5
      refine W_exit (jq [4] ?_)
      refine W_ret (je (by simp [h2, h5]; rfl) ?_)
      grind [sub]
end Go.Proofs
namespace Go.Proofs
open Go Go.Ev


theorem cb_laws_szHandler : Callable Tryz.prog 213 := ⟨_, Tryz.func213, by kernel_rfl, by kernel_rfl⟩
theorem ct_laws_szHandler {x : Hdl} {z : Int} (h : bigH x) (h0 : 0 ≤ z) (h1 : z ≤ 1099511627776) : Ct Tryz.prog 213 [eH x, .int .i64 z] [] (.int .i64 (sub z (sizeH x))) [] := by
  simp only [bigH] at h
  refine Ct_bodyS tok Tryz.func213 rfl 13 (by kernel_rfl) (by kernel_rfl) fun X hX => ?_
  refine jq [1, 2] ?_
  refine W_rseqK [1] (jh hX (by simp; (try (simp (disch := omega) only [wrap_i64]; (try simp))); rfl)) ?_
  refine W_seq (jq [1, 11] ?_)
  refine jd (fun h2 => ?_) (fun h2 => ?_)
  · try simp at h2
    refine jq [4] ?_
    refine W_ret (je (by simp [h2]; rfl) ?_)
    simp [sub, sizeH] at *; omega
  · try simp at h2
    refine W_skip (jq [4] ?_)
    refine W_ret (je (by simp [h2]; rfl) ?_)
    simp [sub, sizeH] at *; omega
end Go.Proofs
namespace Go.Proofs
open Go Go.Ev


theorem cb_laws_szHandlerS : Callable Tryz.prog 174 := ⟨_, Tryz.func174, by kernel_rfl, by kernel_rfl⟩
theorem ct_laws_szHandlerS {l : List Hdl} {z : Int} (h : l.length < 4611686018427387904) (hb : ∀ y ∈ l, bigH y) (h0 : 0 ≤ z) (h1 : z ≤ 1099511627776) : Ct Tryz.prog 174 [.lst false 4 (l.map eH), .int .i64 z] [] (.int .i64 (sub z (l.length + (l.map sizeH).sum))) [] := by
  refine Ct_bodyS tok Tryz.func174 rfl 27 (by kernel_rfl) (by kernel_rfl) fun X hX => ?_
  refine jq [0, 1] ?_
  refine W_rseqK [0, 1] (jh hX (by simp; (try (simp (disch := omega) only [wrap_i64]; (try simp))); rfl)) ?_
  refine W_seq (jq [0, 1, 11] ?_)
  refine jd (fun h2 => ?_) (fun h2 => ?_)
  · try simp at h2
    refine jq [4] ?_
    refine W_ret (je (by simp [h2]; rfl) ?_)
    grind [sub]
  · try simp at h2
    refine W_skip (W_seq (jq [0, 1, 5] ?_))
    refine W_block (W_loopU (α := Nat × Int) [0, 1, 5] (fun p => [(1, .int .i64 p.2), (5, .int .i64 p.1)]) (fun p => []) (fun p => p.1 ≤ l.length ∧ 0 ≤ p.2 ∧ p.2 ≤ 1099511627776 ∧ sub p.2 ((l.drop p.1).map sizeH).sum = sub z (l.length + (l.map sizeH).sum)) (fun p => l.length - p.1) ((0, z - l.length)) (fun p => by simp; rfl) (by simp) ?_ ?_)
    · exact ⟨by simp, by simp; omega, by simp; omega, by simp [sub]; grind⟩
    rintro ⟨i, y⟩ ⟨hi, hy0, hy1, hI⟩
    simp only at hi hy0 hy1 hI
    refine W_seq (W_rseqK [0, 1, 5, 15] (jh hX (by simp [h2]; rfl)) ?_)
    refine jd (fun h5 => ?_) (fun h5 => ?_)
    · try simp at h5
      rw [List.drop_eq_getElem_cons h5] at hI
      simp only [List.map_cons, List.sum_cons] at hI
      refine W_skip (W_seq (W_block (W_rseqK [0, 1, 5] (js hX 5 (by simp [h2, h5]; rfl) (jc [] (c:=(by apply ct_laws_szHandler <;> first | assumption | omega | exact hb _ (List.getElem_mem _))) (a:=cb_laws_szHandler) (k:=jr))) ?_)))
      refine jq [0, 1, 5, 25] ?_
      refine jd (fun h8 => ?_) (fun h8 => ?_)
      · try simp at h8
        refine jq [4] ?_
        refine W_ret (je (by simp [h2, h5, h8]; rfl) ?_)
        grind [sub]
      · try simp at h8
        refine W_skip (W_reg (jh hX (by simp; (try (simp (disch := omega) only [wrap_i64]; (try simp))); rfl)) ?_)
        refine round_end ((i + 1, sub y (sizeH l[i]))) [0, 1, 5] (by simp [h2, h5, h8]; try (simp (disch := omega) only [wrap_i64])) ?_ ?_
        · exact ⟨by simp; omega, by simp; grind [sub], by simp; grind [sub], by grind [sub]⟩
        · simp; omega
    · try simp at h5
      refine W_exit (jq [4] ?_)
      refine W_ret (je (by simp [h2, h5]; rfl) ?_)
      grind [sub]
end Go.Proofs
namespace Go.Proofs
open Go Go.Ev


theorem cb_laws_szMethod : Callable Tryz.prog 121 := ⟨_, Tryz.func121, by kernel_rfl, by kernel_rfl⟩
theorem ct_laws_szMethod {x : Mth} {z : Int} (h : bigM x) (h0 : 0 ≤ z) (h1 : z ≤ 1099511627776) : Ct Tryz.prog 121 [eM x, .int .i64 z] [] (.int .i64 (sub z (sizeM x))) [] := by
  simp only [bigM] at h
  obtain ⟨g0, g1, g2, g3, g4, g5⟩ := h
  refine Ct_bodyS tok Tryz.func121 rfl 32 (by kernel_rfl) (by kernel_rfl) fun X hX => ?_
  refine jq [1, 2] ?_
  refine W_rseqK [1, 2] (jh hX (by simp; (try (simp (disch := omega) only [wrap_i64]; (try simp))); rfl)) ?_
  refine W_seq (jq [1, 2, 11] ?_)
  refine jd (fun h2 => ?_) (fun h2 => ?_)
  · try simp at h2
    refine jq [4] ?_
    refine W_ret (je (by simp [h2]; rfl) ?_)
    grind [sub, sizeM]
  · try simp at h2
    refine W_skip (W_rseqK [1, 2] (jh hX (by simp [h2]; (try (simp (disch := omega) only [wrap_i64]; (try simp [h2]))); rfl)) ?_)
    refine W_seq (jq [1, 2, 18] ?_)
    refine jd (fun h5 => ?_) (fun h5 => ?_)
    · try simp at h5
      refine jq [4] ?_
      refine W_ret (je (by simp [h2, h5]; rfl) ?_)
      grind [sub, sizeM]
    · try simp at h5
      refine W_skip (W_rseqK [1, 2] (js hX 3 (by simp [h2, h5]; rfl) (jc [] (c:=(by apply ct_laws_szInsS <;> first | assumption | omega | grind [sub])) (a:=cb_laws_szInsS) (k:=jr))) ?_)
      refine W_seq (jq [1, 2, 24] ?_)
      refine jd (fun h8 => ?_) (fun h8 => ?_)
      · try simp at h8
        refine jq [4] ?_
        refine W_ret (je (by simp [h2, h5, h8]; rfl) ?_)
        grind [sub, sizeM]
      · try simp at h8
        refine W_skip (W_rseqK [1] (js hX 3 (by simp [h2, h5, h8]; rfl) (jc [] (c:=(by apply ct_laws_szHandlerS <;> first | assumption | omega | grind [sub])) (a:=cb_laws_szHandlerS) (k:=jr))) ?_)
        refine W_seq (jq [1, 30] ?_)
        refine jd (fun h11 => ?_) (fun h11 => ?_)
        · try simp at h11
          refine jq [4] ?_
          refine W_ret (je (by simp [h2, h5, h8, h11]; rfl) ?_)
          grind [sub, sizeM]
        · try simp at h11
          refine W_skip (jq [4] ?_)
          refine W_ret (je (by simp [h2, h5, h8, h11]; rfl) ?_)
          grind [sub, sizeM]
end Go.Proofs
namespace Go.Proofs
open Go Go.Ev


theorem cb_laws_szMethodS : Callable Tryz.prog 72 := ⟨_, Tryz.func72, by kernel_rfl, by kernel_rfl⟩
theorem ct_laws_szMethodS {l : List Mth} {z : Int} (h : l.length < 4611686018427387904) (hb : ∀ y ∈ l, bigM y) (h0 : 0 ≤ z) (h1 : z ≤ 1099511627776) : Ct Tryz.prog 72 [.lst false 9 (l.map eM), .int .i64 z] [] (.int .i64 (sub z (l.length + (l.map sizeM).sum))) [] := by
  refine Ct_bodyS tok Tryz.func72 rfl 27 (by kernel_rfl) (by kernel_rfl) fun X hX => ?_
  refine jq [0, 1] ?_
  refine W_rseqK [0, 1] (jh hX (by simp; (try (simp (disch := omega) only [wrap_i64]; (try simp))); rfl)) ?_
  refine W_seq (jq [0, 1, 11] ?_)
  refine jd (fun h2 => ?_) (fun h2 => ?_)
  · try simp at h2
    refine jq [4] ?_
    refine W_ret (je (by simp [h2]; rfl) ?_)
    grind [sub]
  · try simp at h2
    refine W_skip (W_seq (jq [0, 1, 5] ?_))
    refine W_block (W_loopU (α := Nat × Int) [0, 1, 5] (fun p => [(1, .int .i64 p.2), (5, .int .i64 p.1)]) (fun p => []) (fun p => p.1 ≤ l.length ∧ 0 ≤ p.2 ∧ p.2 ≤ 1099511627776 ∧ sub p.2 ((l.drop p.1).map sizeM).sum = sub z (l.length + (l.map sizeM).sum)) (fun p => l.length - p.1) ((0, z - l.length)) (fun p => by simp; rfl) (by simp) ?_ ?_)
    · exact ⟨by simp, by simp; omega, by simp; omega, by simp [sub]; grind⟩
    rintro ⟨i, y⟩ ⟨hi, hy0, hy1, hI⟩
    simp only at hi hy0 hy1 hI
    refine W_seq (W_rseqK [0, 1, 5, 15] (jh hX (by simp [h2]; rfl)) ?_)
    refine jd (fun h5 => ?_) (fun h5 => ?_)
    · try simp at h5
      rw [List.drop_eq_getElem_cons h5] at hI
      simp only [List.map_cons, List.sum_cons] at hI
      refine W_skip (W_seq (W_block (W_rseqK [0, 1, 5] (js hX 5 (by simp [h2, h5]; rfl) (jc [] (c:=(by apply ct_laws_szMethod <;> first | assumption | omega | exact hb _ (List.getElem_mem _))) (a:=cb_laws_szMethod) (k:=jr))) ?_)))
      refine jq [0, 1, 5, 25] ?_
      refine jd (fun h8 => ?_) (fun h8 => ?_)
      · try simp at h8
        refine jq [4] ?_
        refine W_ret (je (by simp [h2, h5, h8]; rfl) ?_)
        grind [sub]
      · try simp at h8
        refine W_skip (W_reg (jh hX (by simp; (try (simp (disch := omega) only [wrap_i64]; (try simp))); rfl)) ?_)
        refine round_end ((i + 1, sub y (sizeM l[i]))) [0, 1, 5] (by simp [h2, h5, h8]; try (simp (disch := omega) only [wrap_i64])) ?_ ?_
        · exact ⟨by simp; omega, by simp; grind [sub], by simp; grind [sub], by grind [sub]⟩
        · simp; omega
    · try simp at h5
      refine W_exit (jq [4] ?_)
      refine W_ret (je (by simp [h2, h5]; rfl) ?_)
      grind [sub]
end Go.Proofs
namespace Go.Proofs
open Go Go.Ev


theorem cb_laws_szClass : Callable Tryz.prog 33 := ⟨_, Tryz.func33, by kernel_rfl, by kernel_rfl⟩
theorem ct_laws_szClass {x : Cls} {z : Int} (h : bigC x) (h0 : 0 ≤ z) (h1 : z ≤ 1099511627776) : Ct Tryz.prog 33 [eC x, .int .i64 z] [] (.int .i64 (sub z (sizeC x))) [] := by
  simp only [bigC] at h
  obtain ⟨g0, g1, g2, g3, g4, g5⟩ := h
  refine Ct_bodyS tok Tryz.func33 rfl 32 (by kernel_rfl) (by kernel_rfl) fun X hX => ?_
  refine jq [1, 2] ?_
  refine W_rseqK [1, 2] (jh hX (by simp; (try (simp (disch := omega) only [wrap_i64]; (try simp))); rfl)) ?_
  refine W_seq (jq [1, 2, 11] ?_)
  refine jd (fun h2 => ?_) (fun h2 => ?_)
  · try simp at h2
    refine jq [4] ?_
    refine W_ret (je (by simp [h2]; rfl) ?_)
    grind [sub, sizeC]
  · try simp at h2
    refine W_skip (W_rseqK [1, 2] (jh hX (by simp [h2]; (try (simp (disch := omega) only [wrap_i64]; (try simp [h2]))); rfl)) ?_)
    refine W_seq (jq [1, 2, 18] ?_)
    refine jd (fun h5 => ?_) (fun h5 => ?_)
    · try simp at h5
      refine jq [4] ?_
      refine W_ret (je (by simp [h2, h5]; rfl) ?_)
      grind [sub, sizeC]
    · try simp at h5
      refine W_skip (W_rseqK [1, 2] (js hX 3 (by simp [h2, h5]; rfl) (jc [] (c:=(by apply ct_laws_szFieldS <;> first | assumption | omega | grind [sub])) (a:=cb_laws_szFieldS) (k:=jr))) ?_)
      refine W_seq (jq [1, 2, 24] ?_)
      refine jd (fun h8 => ?_) (fun h8 => ?_)
      · try simp at h8
        refine jq [4] ?_
        refine W_ret (je (by simp [h2, h5, h8]; rfl) ?_)
        grind [sub, sizeC]
      · try simp at h8
        refine W_skip (W_rseqK [1] (js hX 3 (by simp [h2, h5, h8]; rfl) (jc [] (c:=(by apply ct_laws_szMethodS <;> first | assumption | omega | grind [sub])) (a:=cb_laws_szMethodS) (k:=jr))) ?_)
        refine W_seq (jq [1, 30] ?_)
        refine jd (fun h11 => ?_) (fun h11 => ?_)
        · try simp at h11
          refine jq [4] ?_
          refine W_ret (je (by simp [h2, h5, h8, h11]; rfl) ?_)
          grind [sub, sizeC]
        · try simp at h11
          refine W_skip (jq [4] ?_)
          refine W_ret (je (by simp [h2, h5, h8, h11]; rfl) ?_)
          grind [sub, sizeC]
end Go.Proofs
namespace Go.Proofs
open Go Go.Ev


theorem cb_laws_szClassS : Callable Tryz.prog 8 := ⟨_, Tryz.func8, by kernel_rfl, by kernel_rfl⟩
theorem ct_laws_szClassS {l : List Cls} {z : Int} (h : l.length < 4611686018427387904) (hb : ∀ y ∈ l, bigC y) (h0 : 0 ≤ z) (h1 : z ≤ 1099511627776) : Ct Tryz.prog 8 [.lst false 6 (l.map eC), .int .i64 z] [] (.int .i64 (sub z (l.length + (l.map sizeC).sum))) [] := by
  refine Ct_bodyS tok Tryz.func8 rfl 27 (by kernel_rfl) (by kernel_rfl) fun X hX => ?_
  refine jq [0, 1] ?_
  refine W_rseqK [0, 1] (jh hX (by simp; (try (simp (disch := omega) only [wrap_i64]; (try simp))); rfl)) ?_
  refine W_seq (jq [0, 1, 11] ?_)
  refine jd (fun h2 => ?_) (fun h2 => ?_)
  · try simp at h2
    refine jq [4] ?_
    refine W_ret (je (by simp [h2]; rfl) ?_)
    grind [sub]
  · try simp at h2
    refine W_skip (W_seq (jq [0, 1, 5] ?_))
    refine W_block (W_loopU (α := Nat × Int) [0, 1, 5] (fun p => [(1, .int .i64 p.2), (5, .int .i64 p.1)]) (fun p => []) (fun p => p.1 ≤ l.length ∧ 0 ≤ p.2 ∧ p.2 ≤ 1099511627776 ∧ sub p.2 ((l.drop p.1).map sizeC).sum = sub z (l.length + (l.map sizeC).sum)) (fun p => l.length - p.1) ((0, z - l.length)) (fun p => by simp; rfl) (by simp) ?_ ?_)
    · exact ⟨by simp, by simp; omega, by simp; omega, by simp [sub]; grind⟩
    rintro ⟨i, y⟩ ⟨hi, hy0, hy1, hI⟩
    simp only at hi hy0 hy1 hI
    refine W_seq (W_rseqK [0, 1, 5, 15] (jh hX (by simp [h2]; rfl)) ?_)
    refine jd (fun h5 => ?_) (fun h5 => ?_)
    · try simp at h5
      rw [List.drop_eq_getElem_cons h5] at hI
      simp only [List.map_cons, List.sum_cons] at hI
      refine W_skip (W_seq (W_block (W_rseqK [0, 1, 5] (js hX 5 (by simp [h2, h5]; rfl) (jc [] (c:=(by apply ct_laws_szClass <;> first | assumption | omega | exact hb _ (List.getElem_mem _))) (a:=cb_laws_szClass) (k:=jr))) ?_)))
      refine jq [0, 1, 5, 25] ?_
      refine jd (fun h8 => ?_) (fun h8 => ?_)
      · try simp at h8
        refine jq [4] ?_
        refine W_ret (je (by simp [h2, h5, h8]; rfl) ?_)
        grind [sub]
      · try simp at h8
        refine W_skip (W_reg (jh hX (by simp; (try (simp (disch := omega) only [wrap_i64]; (try simp))); rfl)) ?_)
        refine round_end ((i + 1, sub y (sizeC l[i]))) [0, 1, 5] (by simp [h2, h5, h8]; try (simp (disch := omega) only [wrap_i64])) ?_ ?_
        · exact ⟨by simp; omega, by simp; grind [sub], by simp; grind [sub], by grind [sub]⟩
        · simp; omega
    · try simp at h5
      refine W_exit (jq [4] ?_)
      refine W_ret (je (by simp [h2, h5]; rfl) ?_)
      grind [sub]
end Go.Proofs
namespace Go.Proofs
open Go Go.Ev


theorem cb_laws_szValS : Callable Tryz.prog 122 := ⟨_, Tryz.func122, by kernel_rfl, by kernel_rfl⟩
theorem ct_laws_szValS {l : List Vl} {z : Int} (h : l.length < 4611686018427387904) (h0 : 0 ≤ z) (h1 : z ≤ 1099511627776) : Ct Tryz.prog 122 [.lst false 2 (l.map eVl), .int .i64 z] [] (.int .i64 (sub z l.length)) [] := by
  refine Ct_bodyS tok Tryz.func122 rfl 12 (by kernel_rfl) (by kernel_rfl) fun X hX => ?_
  refine jq [0, 1] ?_
  refine W_rseqK [1] (jh hX (by simp; (try (simp (disch := omega) only [wrap_i64]; (try simp))); rfl)) ?_
  refine W_seq (jq [1, 10] ?_)
  refine jd (fun h2 => ?_) (fun h2 => ?_)
  · try simp at h2
    refine jq [4] ?_
    refine W_ret (je (by simp [h2]; rfl) ?_)
    grind [sub]
  · try simp at h2
    refine W_skip (jq [4] ?_)
    refine W_ret (je (by simp [h2]; rfl) ?_)
    grind [sub]
end Go.Proofs
namespace Go.Proofs
open Go Go.Ev


theorem cb_laws_szObj : Callable Tryz.prog 73 := ⟨_, Tryz.func73, by kernel_rfl, by kernel_rfl⟩
theorem ct_laws_szObj {x : HOb} {z : Int} (h : bigOb x) (h0 : 0 ≤ z) (h1 : z ≤ 1099511627776) : Ct Tryz.prog 73 [eOb x, .int .i64 z] [] (.int .i64 (sub z (sizeOb x))) [] := by
  simp only [bigOb] at h
  obtain ⟨g0, g1⟩ := h
  refine Ct_bodyS tok Tryz.func73 rfl 19 (by kernel_rfl) (by kernel_rfl) fun X hX => ?_
  refine jq [1, 2] ?_
  refine W_rseqK [1, 2] (jh hX (by simp; (try (simp (disch := omega) only [wrap_i64]; (try simp))); rfl)) ?_
  refine W_seq (jq [1, 2, 11] ?_)
  refine jd (fun h2 => ?_) (fun h2 => ?_)
  · try simp at h2
    refine jq [4] ?_
    refine W_ret (je (by simp [h2]; rfl) ?_)
    grind [sub, sizeOb]
  · try simp at h2
    refine W_skip (W_rseqK [1] (js hX 3 (by simp [h2]; rfl) (jc [] (c:=(by apply ct_laws_szValS <;> first | assumption | omega | grind [sub])) (a:=cb_laws_szValS) (k:=jr))) ?_)
    refine W_seq (jq [1, 17] ?_)
    refine jd (fun h5 => ?_) (fun h5 => ?_)
    · try simp at h5
      refine jq [4] ?_
      refine W_ret (je (by simp [h2, h5]; rfl) ?_)
      grind [sub, sizeOb]
    · try simp at h5
      refine W_skip (jq [4] ?_)
      refine W_ret (je (by simp [h2, h5]; rfl) ?_)
      grind [sub, sizeOb]
end Go.Proofs
namespace Go.Proofs
open Go Go.Ev


theorem cb_laws_szObjS : Callable Tryz.prog 34 := ⟨_, Tryz.func34, by kernel_rfl, by kernel_rfl⟩
theorem ct_laws_szObjS {l : List HOb} {z : Int} (h : l.length < 4611686018427387904) (hb : ∀ y ∈ l, bigOb y) (h0 : 0 ≤ z) (h1 : z ≤ 1099511627776) : Ct Tryz.prog 34 [.lst false 4 (l.map eOb), .int .i64 z] [] (.int .i64 (sub z (l.length + (l.map sizeOb).sum))) [] := by
  refine Ct_bodyS tok Tryz.func34 rfl 27 (by kernel_rfl) (by kernel_rfl) fun X hX => ?_
  refine jq [0, 1] ?_
  refine W_rseqK [0, 1] (jh hX (by simp; (try (simp (disch := omega) only [wrap_i64]; (try simp))); rfl)) ?_
  refine W_seq (jq [0, 1, 11] ?_)
  refine jd (fun h2 => ?_) (fun h2 => ?_)
  · try simp at h2
    refine jq [4] ?_
    refine W_ret (je (by simp [h2]; rfl) ?_)
    grind [sub]
  · try simp at h2
    refine W_skip (W_seq (jq [0, 1, 5] ?_))
    refine W_block (W_loopU (α := Nat × Int) [0, 1, 5] (fun p => [(1, .int .i64 p.2), (5, .int .i64 p.1)]) (fun p => []) (fun p => p.1 ≤ l.length ∧ 0 ≤ p.2 ∧ p.2 ≤ 1099511627776 ∧ sub p.2 ((l.drop p.1).map sizeOb).sum = sub z (l.length + (l.map sizeOb).sum)) (fun p => l.length - p.1) ((0, z - l.length)) (fun p => by simp; rfl) (by simp) ?_ ?_)
    · exact ⟨by simp, by simp; omega, by simp; omega, by simp [sub]; grind⟩
    rintro ⟨i, y⟩ ⟨hi, hy0, hy1, hI⟩
    simp only at hi hy0 hy1 hI
    refine W_seq (W_rseqK [0, 1, 5, 15] (jh hX (by simp [h2]; rfl)) ?_)
    refine jd (fun h5 => ?_) (fun h5 => ?_)
    · try simp at h5
      rw [List.drop_eq_getElem_cons h5] at hI
      simp only [List.map_cons, List.sum_cons] at hI
      refine W_skip (W_seq (W_block (W_rseqK [0, 1, 5] (js hX 5 (by simp [h2, h5]; rfl) (jc [] (c:=(by apply ct_laws_szObj <;> first | assumption | omega | exact hb _ (List.getElem_mem _))) (a:=cb_laws_szObj) (k:=jr))) ?_)))
      refine jq [0, 1, 5, 25] ?_
      refine jd (fun h8 => ?_) (fun h8 => ?_)
      · try simp at h8
        refine jq [4] ?_
        refine W_ret (je (by simp [h2, h5, h8]; rfl) ?_)
        grind [sub]
      · try simp at h8
        refine W_skip (W_reg (jh hX (by simp; (try (simp (disch := omega) only [wrap_i64]; (try simp))); rfl)) ?_)
        refine round_end ((i + 1, sub y (sizeOb l[i]))) [0, 1, 5] (by simp [h2, h5, h8]; try (simp (disch := omega) only [wrap_i64])) ?_ ?_
        · exact ⟨by simp; omega, by simp; grind [sub], by simp; grind [sub], by grind [sub]⟩
        · simp; omega
    · try simp at h5
      refine W_exit (jq [4] ?_)
      refine W_ret (je (by simp [h2, h5]; rfl) ?_)
      grind [sub]
end Go.Proofs
namespace Go.Proofs
open Go Go.Ev


theorem cb_laws_szHeap : Callable Tryz.prog 9 := ⟨_, Tryz.func9, by kernel_rfl, by kernel_rfl⟩
theorem ct_laws_szHeap {x : Hep} {z : Int} (h : bigHp x) (h0 : 0 ≤ z) (h1 : z ≤ 1099511627776) : Ct Tryz.prog 9 [eHp x, .int .i64 z] [] (.int .i64 (sub z (sizeHp x))) [] := by
  simp only [bigHp] at h
  obtain ⟨g0, g1⟩ := h
  refine Ct_bodyS tok Tryz.func9 rfl 12 (by kernel_rfl) (by kernel_rfl) fun X hX => ?_
  refine jq [1, 2] ?_
  refine W_rseqK [1] (jt 3 (k:=(jc [] (c:=(by apply ct_laws_szObjS <;> first | assumption | omega | grind [sub])) (a:=cb_laws_szObjS) (k:=jr)))) ?_
  refine W_seq (jq [1, 10] ?_)
  refine jd (fun h2 => ?_) (fun h2 => ?_)
  · try simp at h2
    refine jq [4] ?_
    refine W_ret (je (by simp [h2]; rfl) ?_)
    grind [sub, sizeHp]
  · try simp at h2
    refine W_skip (jq [4] ?_)
    refine W_ret (je (by simp [h2]; rfl) ?_)
    grind [sub, sizeHp]
end Go.Proofs
namespace Go.Proofs
open Go Go.Ev


theorem cb_spec_BuiltIn : Callable Tryz.prog 123 := ⟨_, Tryz.func123, by kernel_rfl, by kernel_rfl⟩
theorem ct_spec_BuiltIn  : Ct Tryz.prog 123 [] [] (.lst true 1 (builtIn.map V.str)) [] := by
  refine Ct_bodyS tok Tryz.func123 rfl 2 (by kernel_rfl) (by kernel_rfl) fun X hX => ?_
  refine jq [] ?_
  refine jq [0] ?_
  refine W_ret (je0 ?_)
  simp [builtIn]
end Go.Proofs
namespace Go.Proofs
open Go Go.Ev


theorem cb_spec_l05Built : Callable Tryz.prog 91 := ⟨_, Tryz.func91, by kernel_rfl, by kernel_rfl⟩
theorem ct_spec_l05Built {n : Str} : Ct Tryz.prog 91 [.str n] [] (.int .i64 (builtIx n)) [] := by
  have hbl := builtIn_length
  refine Ct_bodyS tok Tryz.func91 rfl 19 (by kernel_rfl) (by kernel_rfl) fun X hX => ?_
  refine jq [0] ?_
  refine W_rseqK [0, 3] (jc [] (c:=(by apply ct_spec_BuiltIn <;> first | assumption | omega | (simp at *; omega) | simp_all)) (a:=cb_spec_BuiltIn) (k:=jr)) ?_
  refine W_seq (jq [0, 3, 4] ?_)
  refine W_block (W_loopU (α := Nat) [0, 3, 4] (fun i => [(4, .int .i64 i)]) (fun i => []) (fun i => i ≤ 8 ∧ ixFrom n (builtIn.drop i) i = builtIx n) (fun i => 8 - i) (0) (fun i => by simp; rfl) (by simp) ?_ ?_)
  · simp [builtIx]
  rintro i ⟨hi, hI⟩
  refine W_seq (jq [0, 3, 4, 9] ?_)
  refine jd (fun h3 => ?_) (fun h3 => ?_)
  · try simp at h3
    rw [List.drop_eq_getElem_cons h3] at hI
    simp only [ixFrom] at hI
    refine W_skip (W_seq (W_block (W_rseqK [0, 3, 4, 17] (jh hX (by simp [h3]; rfl)) ?_)))
    refine jd (fun h5 => ?_) (fun h5 => ?_)
    · try simp at h5
      refine jq [2] ?_
      refine W_ret (je (by simp [h3]; rfl) ?_)
      simp [← hI, h5]
    · try simp at h5
      refine W_skip (W_reg (jh hX (by simp; (try (simp (disch := omega) only [wrap_i64]; (try simp))); rfl)) ?_)
      refine round_end (i + 1) [0, 3, 4] (by simp [h3]; try (simp (disch := omega) only [wrap_i64])) ?_ ?_
      · exact ⟨by omega, by simp [← hI, h5]⟩
      · omega
  · try simp at h3
    refine W_exit (jq [2] ?_)
    refine W_ret (je (by simp [h3]; rfl) ?_)
    simp [← hI, List.drop_eq_nil_of_le h3, ixFrom]
end Go.Proofs
namespace Go.Proofs
open Go Go.Ev


theorem cb_spec_l05Find : Callable Tryz.prog 92 := ⟨_, Tryz.func92, by kernel_rfl, by kernel_rfl⟩
theorem ct_spec_l05Find {l : List Cls} {n : Str} (hl : l.length ≤ 1099511627776) : Ct Tryz.prog 92 [.lst false 6 (l.map eC), .str n] [] (.int .i64 (findFrom n l 0)) [] := by
  refine Ct_bodyS tok Tryz.func92 rfl 20 (by kernel_rfl) (by kernel_rfl) fun X hX => ?_
  refine jq [0, 1] ?_
  refine W_seq (jq [0, 1, 5] ?_)
  refine W_block (W_loopU (α := Nat) [0, 1, 5] (fun i => [(5, .int .i64 i)]) (fun i => []) (fun i => i ≤ l.length ∧ findFrom n (l.drop i) i = findFrom n l 0) (fun i => l.length - i) (0) (fun i => by simp; rfl) (by simp) ?_ ?_)
  · simp
  rintro i ⟨hi, hI⟩
  refine W_seq (jq [0, 1, 5, 9] ?_)
  refine jd (fun h2 => ?_) (fun h2 => ?_)
  · try simp at h2
    rw [List.drop_eq_getElem_cons h2] at hI
    simp only [findFrom] at hI
    refine W_skip (W_seq (W_block (W_rseqK [0, 1, 5, 18] (jh hX (by simp [h2]; rfl)) ?_)))
    refine jd (fun h4 => ?_) (fun h4 => ?_)
    · try simp at h4
      refine jq [4] ?_
      refine W_ret (je (by simp [h2]; rfl) ?_)
      simp [← hI, h4]
    · try simp at h4
      refine W_skip (W_reg (jh hX (by simp; (try (simp (disch := omega) only [wrap_i64]; (try simp))); rfl)) ?_)
      refine round_end (i + 1) [0, 1, 5] (by simp [h2]; try (simp (disch := omega) only [wrap_i64])) ?_ ?_
      · exact ⟨by omega, by simp [← hI, h4]⟩
      · omega
  · try simp at h2
    refine W_exit (jq [4] ?_)
    refine W_ret (je (by simp [h2]; rfl) ?_)
    simp [← hI, List.drop_eq_nil_of_le h2, findFrom]
end Go.Proofs
namespace Go.Proofs
open Go Go.Ev


theorem cb_spec_l05Known : Callable Tryz.prog 50 := ⟨_, Tryz.func50, by kernel_rfl, by kernel_rfl⟩
theorem ct_spec_l05Known {l : List Cls} {n : Str} (hl : l.length ≤ 1099511627776) : Ct Tryz.prog 50 [.lst false 6 (l.map eC), .str n] [] (.bool (isKnown l n)) [] := by
  refine Ct_bodyS tok Tryz.func50 rfl 14 (by kernel_rfl) (by kernel_rfl) fun X hX => ?_
  refine jq [0, 1] ?_
  refine W_rseqK [4] (jt 1 (k:=(jc [] (c:=(by apply ct_spec_l05Built <;> first | assumption | omega | (simp at *; omega) | simp_all)) (a:=cb_spec_l05Built) (k:=(jt 2 (k:=(jm 5 8 [13] (p:=fun b1_4 => by (try simp at b1_4); exact (jh hX (by simp [-atD_lt, -atL_lt]; rfl))) (q:=fun b1_4 => by (try simp at b1_4); exact (js hX 2 (by simp [-atD_lt, -atL_lt]; rfl) (Runs.call [] rfl (by simp) rfl (by simp [-atD_lt, -atL_lt]; rfl) (by simp; rfl) (by apply ct_spec_l05Find <;> first | assumption | omega | (simp at *; omega) | simp_all) cb_spec_l05Find (by simp) (by simp) (by simp [-atD_lt, -atL_lt]; rfl) (jh hX (by simp [-atD_lt, -atL_lt]; rfl))))) (k:=jr)))))))) ?_
  refine W_ret (je0 ?_)
  (try simp_all [isKnown])
end Go.Proofs
namespace Go.Proofs
open Go Go.Ev


theorem cb_spec_l01NameByte : Callable Tryz.prog 143 := ⟨_, Tryz.func143, by kernel_rfl, by kernel_rfl⟩
theorem ct_spec_l01NameByte {c : UInt8} {f : Bool} : Ct Tryz.prog 143 [.int .u8 c.toNat, .bool f] [] (.bool (nameByte c f)) [] := by
  refine Ct_bodyS tok Tryz.func143 rfl 33 (by kernel_rfl) (by kernel_rfl) fun X hX => ?_
  refine jq [0, 1] ?_
  refine W_seq (W_rseqK [0, 1, 22] (jt 3 (k:=(jm 3 7 [0, 1, 10] (p:=fun b1_3 => by (try simp at b1_3); exact (jh hX (by simp [-atD_lt, -atL_lt]; rfl))) (q:=fun b1_3 => by (try simp at b1_3); exact (jh hX (by simp [-atD_lt, -atL_lt]; rfl))) (k:=(jt 1 (k:=(jm 7 11 [0, 1, 18] (p:=fun b1_7 => by (try simp at b1_7); exact (jh hX (by simp [-atD_lt, -atL_lt]; rfl))) (q:=fun b1_7 => by (try simp at b1_7); exact (js hX 3 (by simp [-atD_lt, -atL_lt]; rfl) (jm 3 14 [0, 1, 11, 17] (p:=fun b1_10 => by (try simp at b1_10); exact (jh hX (by simp [-atD_lt, -atL_lt]; rfl))) (q:=fun b1_10 => by (try simp at b1_10); exact (jh hX (by simp [-atD_lt, -atL_lt]; rfl))) (k:=(jh hX (by simp [-atD_lt, -atL_lt]; rfl)))))) (k:=(jt 1 (k:=(jm 3 19 [0, 1, 22] (p:=fun b1_15 => by (try simp at b1_15); exact (jh hX (by simp [-atD_lt, -atL_lt]; rfl))) (q:=fun b1_15 => by (try simp at b1_15); exact (jh hX (by simp [-atD_lt, -atL_lt]; rfl))) (k:=jf)))))))))))) ?_)
  refine jd (fun h1 => ?_) (fun h1 => ?_)
  · try simp at h1
    refine jq [4] ?_
    refine W_ret (je (by simp [h1]; rfl) ?_)
    (try simp_all [nameByte]) <;> grind [nameByte]
  · try simp at h1
    refine W_skip (W_rseqK [4] (jt 3 (k:=(jm 3 25 [0, 28] (p:=fun b3_3 => by (try simp at b3_3); exact (jh hX (by simp [-atD_lt, -atL_lt]; rfl))) (q:=fun b3_3 => by (try simp at b3_3); exact (jh hX (by simp [-atD_lt, -atL_lt]; rfl))) (k:=(jt 1 (k:=(jm 3 29 [32] (p:=fun b3_7 => by (try simp at b3_7); exact (jh hX (by simp [-atD_lt, -atL_lt]; rfl))) (q:=fun b3_7 => by (try simp at b3_7); exact (jh hX (by simp [-atD_lt, -atL_lt]; rfl))) (k:=jr)))))))) ?_)
    refine W_ret (je (by simp [h1]; rfl) ?_)
    (try simp_all [nameByte]) <;> grind [nameByte]
end Go.Proofs
