/- Part 5 of what the proofs lean on: an evaluator of Go functions over abstract values. Conditions: none. -/
import Derived.Test.YtebbhmbngfpkaaaGreatK03
import Derived.HandedShaped
import Derived.Carry
import Derived.ProofKit
import Derived.Deep.Slices
import Derived.Lib.SliceRun
import Derived.RangeFuncKeeps
set_option linter.all false
set_option linter.unusedVariables false
set_option linter.unusedSimpArgs false
set_option maxHeartbeats 2000000
set_option maxRecDepth 100000
/-! A region that draws its order and holds calls and an operation (an allocation) that may come anywhere among them. -/
namespace Go.Ev
open Go

/-- what may come next: one operation, or one of two -/
inductive Tr where
  | tail
  | one (i : Nat) (t : Tr)
  | two (i j : Nat) (t u : Tr)

section
variable {P : Program} {ops : Array Oper} {Q : Exit → Act → World → Prop}

def trB (md : Region.Mode) (ops : Array Oper) (n : Nat) : Tr → Nat → Array Bool → Bool
  | .tail, k, listed => decide (k = 0) && Region.seqB md ops (ops.size - n) n listed
  | .one i t, k, listed => decide (i < n) && decide (0 < k) && decide (Region.ready md ops listed = [i]) && trB md ops n t (k - 1) (listed.setIfInBounds i true)
  | .two i j t u, k, listed => decide (i < n) && decide (j < n) && decide (0 < k) && decide (Region.ready md ops listed = [i, j]) && trB md ops n t (k - 1) (listed.setIfInBounds i true) && trB md ops n u (k - 1) (listed.setIfInBounds j true)
def headTB (md : Region.Mode) (ops : Array Oper) (n : Nat) (t : Tr) (k : Nat) : List Nat → Array Bool → Bool
  | i :: A, listed => decide (i < n) && (Region.ready md ops listed).contains i && Region.free md ops listed i && headTB md ops n t k A (listed.setIfInBounds i true)
  | [], listed => trB md ops n t k listed
def treeB (md : Region.Mode) (ops : Array Oper) (n : Nat) (A : List Nat) (t : Tr) : Bool :=
  Region.noSelect ops && decide (n < ops.size) && Region.sinkB md ops n && Region.chainB md ops n && decide (A.length ≤ n) && headTB md ops n t (n - A.length) A (Array.replicate ops.size false)

def HeadT (P : Program) (ops : Array Oper) (Q : Exit → Act → World → Prop) (S : World → Prop) (n : Nat) : Tr → Act → World → Prop
  | .one i t, a, w => wpOp P ops Q i (fun a' w' => S w' ∧ HeadT P ops Q S n t a' w') a w
  | .two i j t u, a, w => wpOp P ops Q i (fun a' w' => S w' ∧ HeadT P ops Q S n t a' w') a w ∧ wpOp P ops Q j (fun a' w' => S w' ∧ HeadT P ops Q S n u a' w') a w
  | .tail, a, w => wpList P ops Q (ops.toList.drop n) a w
def HeadK (P : Program) (ops : Array Oper) (S : World → Prop) (K : Act → World → Prop) : List Nat → Act → World → Prop
  | i :: A, a, w => ∃ oi v, ops[i]? = some oi ∧ YieldsIf P ops S oi v a ∧ HeadK P ops S K A (a.put oi.dst v) w
  | [], a, w => K a w

theorem wpAnyT_tr {md : Region.Mode} {S : World → Prop} {n : Nat} (hsel : Region.noSelect ops = true) (hn : n < ops.size) (hs : Region.sinkB md ops n = true) (hc : Region.chainB md ops n = true) (hQ : ∀ c a w, ¬ Q (.panic c) a w) :
    ∀ (t : Tr) (k : Nat) (listed : Array Bool) (a : Act) (w : World), HeadInv md ops n listed → S w → trB md ops n t k listed = true → HeadT P ops Q S n t a w →
      wpAnyT P md ops Q S n (k + (ops.size - n)) listed a w
  | .one i t, k, listed, a, w, inv, hS, hB, h => by
    simp only [trB, Bool.and_eq_true, decide_eq_true_eq] at hB
    obtain ⟨⟨⟨hin, hk⟩, hr⟩, hB⟩ := hB
    rw [show k + (ops.size - n) = (k - 1 + (ops.size - n)) + 1 from by omega]
    refine ⟨fun h0 => (by rw [hr] at h0; cases h0), fun j hj => ?_⟩
    have hmem := hj
    rw [hr] at hj
    have hji : j = i := by simpa using hj
    subst hji
    have h : wpOp P ops Q j (fun a' w' => S w' ∧ HeadT P ops Q S n t a' w') a w := h
    exact wpOp_mono (fun a' w' h' => ⟨fun _ => h'.1, wpAnyT_tr hsel hn hs hc hQ t _ _ _ _ (inv.set hmem hin) h'.1 hB h'.2⟩) h
  | .two i i2 t u, k, listed, a, w, inv, hS, hB, h => by
    simp only [trB, Bool.and_eq_true, decide_eq_true_eq] at hB
    obtain ⟨⟨⟨⟨⟨hin, hin2⟩, hk⟩, hr⟩, hB⟩, hB2⟩ := hB
    rw [show k + (ops.size - n) = (k - 1 + (ops.size - n)) + 1 from by omega]
    refine ⟨fun h0 => (by rw [hr] at h0; cases h0), fun j hj => ?_⟩
    have hmem := hj
    rw [hr] at hj
    have h : wpOp P ops Q i (fun a' w' => S w' ∧ HeadT P ops Q S n t a' w') a w ∧ wpOp P ops Q i2 (fun a' w' => S w' ∧ HeadT P ops Q S n u a' w') a w := h
    have hji : j = i ∨ j = i2 := by simpa using hj
    rcases hji with rfl | rfl
    · exact wpOp_mono (fun a' w' h' => ⟨fun _ => h'.1, wpAnyT_tr hsel hn hs hc hQ t _ _ _ _ (inv.set hmem hin) h'.1 hB h'.2⟩) h.1
    · exact wpOp_mono (fun a' w' h' => ⟨fun _ => h'.1, wpAnyT_tr hsel hn hs hc hQ u _ _ _ _ (inv.set hmem hin2) h'.1 hB2 h'.2⟩) h.2
  | .tail, k, listed, a, w, inv, hS, hB, h => by
    simp only [trB, Bool.and_eq_true, decide_eq_true_eq] at hB
    obtain ⟨rfl, hB⟩ := hB
    have h : wpList P ops Q (ops.toList.drop n) a w := h
    have hlen : (ops.toList.drop n).length = ops.size - n := by simp
    have := wpAnyT_tail (P := P) (Q := Q) (md := md) (S := S) (n := n) (ops.toList.drop n) n listed a w (Nat.le_refl _) (fun j => by simp) (fun h => by omega) inv.size (by rw [hlen]; exact hB) h
    rw [hlen] at this
    simpa using this

theorem wpAnyT_headT {md : Region.Mode} {S : World → Prop} {n : Nat} (hsel : Region.noSelect ops = true) (hn : n < ops.size) (hs : Region.sinkB md ops n = true) (hc : Region.chainB md ops n = true) (hQ : ∀ c a w, ¬ Q (.panic c) a w) (t : Tr) (k : Nat) :
    ∀ (A : List Nat) (listed : Array Bool) (a : Act) (w : World), HeadInv md ops n listed → S w → headTB md ops n t k A listed = true → HeadK P ops S (HeadT P ops Q S n t) A a w →
      wpAnyT P md ops Q S n (A.length + k + (ops.size - n)) listed a w
  | i :: A, listed, a, w, inv, hS, hB, ⟨oi, v, hi, hy, h⟩ => by
    simp only [headTB, Bool.and_eq_true, decide_eq_true_eq] at hB
    obtain ⟨⟨⟨hin, hr⟩, hf⟩, hB⟩ := hB
    have hr' : i ∈ Region.ready md ops listed := by simpa using hr
    have := wpAnyT_headT hsel hn hs hc hQ t k A _ _ _ (inv.set hr' hin) hS hB h
    rw [show (i :: A).length + k + (ops.size - n) = (A.length + k + (ops.size - n)) + 1 from by simp; omega]
    exact wpAnyT_first hi (Region.noSelect_spec hsel) hs hc hn hin hQ _ listed a w inv (Region.free_spec hi hf) hr' hy hS this
  | [], listed, a, w, inv, hS, hB, h => by
    have := wpAnyT_tr (P := P) (Q := Q) (S := S) hsel hn hs hc hQ t k listed a w inv hS hB h
    simpa using this

theorem wp_region_tree {id : Nat} {S : World → Prop} {n : Nat} {A : List Nat} {t : Tr} {a : Act} {w : World} (hm : P.follows .mixedOrders = true) (hB : treeB .any ops n A t = true) (hQ : ∀ c a w, ¬ Q (.panic c) a w)
    (hS : S { w with drawn := w.drawn + 1 }) (h : HeadK P ops S (HeadT P ops Q S n t) A a { w with drawn := w.drawn + 1 }) : (Code.region id ops true).wp P Q a w := by
  simp only [treeB, Bool.and_eq_true, decide_eq_true_eq] at hB
  obtain ⟨⟨⟨⟨⟨hsel, hn⟩, hs⟩, hc⟩, hAB⟩, hhead⟩ := hB
  have inv0 : HeadInv .any ops n (Array.replicate ops.size false) :=
    ⟨by simp, fun j oj _ hl => (by rw [getD_replicate_false] at hl; cases hl), fun t _ ht => getD_in (by simpa using ht) (getD_replicate_false _ _)⟩
  have := wpAnyT_headT hsel hn hs hc hQ t (n - A.length) A _ _ _ inv0 hS hhead h
  rw [show A.length + (n - A.length) + (ops.size - n) = ops.size from by omega] at this
  exact wp_region_any hm (wpAny_of_T _ _ _ _ this)
end

section
variable {P : Program} {X : Ctx} {st s1 s2 s3 : St} {Q : Exit → St → Prop} {T : Nat → Option TI} {ls : List Oper} {L : List Nat}

theorem runTk_okK (hT : TOK P T) {n0 : Nat} {ops : Array Oper} {w : World} {m : Mp} {cn : Nat → Cnt} {K : Act → World → Prop} :
    ∀ {A : List Nat} {st s1 : St} {a : Act}, runTk T n0 ops L A st = some s1 → Inv X w st.ob m cn → Sl X w m cn st.tm a → a.defers = [] →
      (∀ a', Sl X w m cn s1.tm a' → a'.defers = [] → K a' w) → HeadK P ops (Kr X cn L w) K A a w
  | [], st, s1, a, h, hi, hs, hd, hk => by simp only [runTk] at h; cases h; exact hk a hs hd
  | i :: A, st, s1, a, h, hi, hs, hd, hk => by
    simp only [runTk] at h
    split at h
    · cases h
    · rename_i o ho
      split at h
      · rename_i hg
        split at h
        · rename_i hp
          split at h
          · rename_i x st' hx
            obtain ⟨u, hu, hR⟩ := (opB_okp (X := X) (L := L) hT hx hp.1 hp.2).1 w m cn a hi hs
            refine ⟨o, u, ho, .inl ⟨gd_ok hs hg, hu⟩, runTk_okK hT h hi ?_ (put_defers _ _ hd) hk⟩
            have := hs.set o.dst hR
            cases hod : o.dst <;> simpa [setD, hod] using this
          · cases h
        · cases h
      · rename_i hg
        refine ⟨o, undef, ho, .inr ⟨gd_ok hs hg, rfl⟩, runTk_okK hT h hi ?_ (put_defers _ _ hd) hk⟩
        have := hs.set o.dst (x := .tup []) (u := undef) (.tup .lnil)
        cases hod : o.dst <;> simpa [setD, hod] using this
      · cases h

/-- what comes, the objects L out of reach -/
inductive StepsT (P : Program) (ops : Array Oper) (L : List Nat) : Tr → St → St → Prop
  | tail {s : St} : StepsT P ops L .tail s s
  | one {i : Nat} {o : Oper} {t : Tr} {s s' s1 s2 : St} (ho : ops[i]? = some o) (hL : ∀ id ∈ L, id < s.ob.length)
      (h : ∀ X' : Ctx, X'.n0 = s.ob.length → Runs P X' ops [o] ⟨s.tm, hid L s.ob⟩ s') (he : (⟨s'.tm, unh s.ob L s'.ob⟩ : St) = s1) (ht : StepsT P ops L t s1 s2) : StepsT P ops L (.one i t) s s2
  | two {i j : Nat} {t u : Tr} {s s2 : St} (h1 : StepsT P ops L (.one i t) s s2) (h2 : StepsT P ops L (.one j u) s s2) : StepsT P ops L (.two i j t u) s s2

theorem stepsT_ok {n : Nat} {ops : Array Oper} {Qf : Exit → Act → World → Prop} {w0 : World} {cn0 : Nat → Cnt} {t : Tr} (h : StepsT P ops L t st s1) :
    ∀ {w : World} {m : Mp} {cn : Nat → Cnt} {a : Act}, Inv X w st.ob m cn → Sl X w m cn st.tm a → a.defers = [] → Kr X cn0 L w0 w → (∀ b, b < w0.heap.size → frz X cn0 b → frz X cn b) → (∀ id ∈ L, cn id = cn0 id) →
      (∀ w m cn a, Inv X w s1.ob m cn → Sl X w m cn s1.tm a → a.defers = [] → wpList P ops Qf (ops.toList.drop n) a w) → HeadT P ops Qf (Kr X cn0 L w0) n t a w := by
  induction h with
  | tail => intro w m cn a hi hs hd _ _ _ hk; exact hk w m cn a hi hs hd
  | two h1 h2 ih1 ih2 => intro w m cn a hi hs hd hK hF hC hk; exact ⟨ih1 hi hs hd hK hF hC hk, ih2 hi hs hd hK hF hC hk⟩
  | @one i o t s s' s1 s2 ho hL h he ht ih =>
    intro w m cn a hi hs hd hK hF hC hk
    subst he
    obtain ⟨h1, h2⟩ := hi.hide L
    have hs' : Sl (ctxH X w m cn L s.ob.length) w m (cnH L cn) s.tm a := hs.mono (Nat.le_refl _) (fun b hb hf => ⟨h2 b hb hf, rfl⟩) (fun _ _ => rfl) trivial (fun _ _ h => ⟨h, rfl⟩)
    have hr := h (ctxH X w m cn L s.ob.length) rfl [] (fun e st => e = .normal ∧ st = s') (WL_nil ⟨rfl, rfl⟩) w m (cnH L cn) a h1 hs' hd
    have step : wpList P ops (post (ctxH X w m cn L s.ob.length) (fun e st => e = .normal ∧ st = s')) [o] a w := hr
    have fin : ∀ a' w', post (ctxH X w m cn L s.ob.length) (fun e st => e = .normal ∧ st = s') .normal a' w' → Kr X cn0 L w0 w' ∧ HeadT P ops Qf (Kr X cn0 L w0) n t a' w' := by
      rintro a' w' ⟨st2, m', cn', ⟨_, rfl⟩, hi', hs2, hd'⟩
      obtain ⟨u1, u2, u3, u4⟩ := hi.unhide hL hi'
      have hK' : Kr X cn0 L w0 w' := ⟨Nat.le_trans hK.1 hi'.le, fun b hb hc => by
        rw [u3 b (Nat.lt_of_lt_of_le hb hK.1) (hc.imp (hF b hb) (fun ⟨id, hid, hc⟩ => ⟨id, hid, by rw [hC id hid]; exact hc⟩))]
        exact hK.2 b hb hc⟩
      refine ⟨hK', ih u1 (hs2.mono (Nat.le_refl _) (fun b _ hf => ⟨u2 b hf, rfl⟩) (fun _ _ => rfl) trivial (fun _ _ h => ⟨h, rfl⟩)) hd' hK' (fun b hb hf => u4 b (Nat.lt_of_lt_of_le hb hK.1) (hF b hb hf)) (fun id hid => ?_) hk⟩
      unfold cnU
      rw [if_pos hid]
      exact hC id hid
    show wpOp P ops Qf i _ a w
    unfold wpOp
    simp only [ho]
    unfold wpList at step
    split
    · rename_i hw
      rw [if_pos hw] at step
      rcases step with step | ⟨_, a', w', st2, m', cn', ⟨h0, _⟩, _⟩
      · exact .inl (wp_mono2 (fun a' w' h => fin a' w' h) (fun e a' w' hne ⟨st2, m', cn', ⟨h0, _⟩, _⟩ => absurd h0 hne) step)
      · cases h0
    · rename_i hw
      rw [if_neg hw] at step
      exact fin _ _ step

theorem W_tree {id n : Nat} {A : List Nat} {t : Tr} (hm : P.follows .mixedOrders = true) (hB : treeB .any ls.toArray n A t = true) (hT : TOK P T) {n0 : Nat} (hX : X.n0 = n0) (hA : runTk T n0 ls.toArray L A st = some s1)
    (hH : StepsT P ls.toArray L t s1 s2) (h2 : Runs P X ls.toArray (ls.drop n) s2 s3) (hq : Q .normal s3) : W P X (.region id ls.toArray true) st Q := by
  intro w m cn a hi hs hd
  have hi' : Inv X { w with drawn := w.drawn + 1 } st.ob m cn := hi.drew
  have hs' : Sl X { w with drawn := w.drawn + 1 } m cn st.tm a := Ext.drew.Sl hs
  have hob := runTk_ob hA
  refine Code.wp_mono (Q := normQ (post X Q)) (fun e a' w' h => ?_) ?_
  · cases e <;> first | exact h | exact h.elim
  refine wp_region_tree (S := Kr X cn L { w with drawn := w.drawn + 1 }) hm hB (fun _ _ _ h => h) (Kr.refl _) (runTk_okK hT hA hi' hs' hd fun a' hs2 hd2 => ?_)
  refine stepsT_ok hH (hob ▸ hi') hs2 hd2 (Kr.refl _) (fun _ _ h => h) (fun _ _ => rfl) (fun w3 m3 cn3 a3 hi3 hs3 hd3 => ?_)
  have := h2 [] (fun e s => e = .normal ∧ Q .normal s) (WL_nil ⟨rfl, hq⟩) w3 m3 cn3 a3 hi3 hs3 hd3
  rw [List.append_nil] at this
  refine wpList_mono2 (fun a w ⟨s, m, cn, ⟨_, h⟩, r⟩ => ⟨s, m, cn, h, r⟩) (fun e a w hne ⟨s, m, cn, ⟨h0, _⟩, _⟩ => absurd h0 hne) _ _ _ this

theorem W_tseqT {id : Nat} {y : Code} (n : Nat) (A : List Nat) (t : Tr) (ks : List Nat) (L : List Nat) (hm : P.follows .mixedOrders = true) (hB : treeB .any ls.toArray n A t = true) (hT : TOK P T) {n0 : Nat} (hX : X.n0 = n0) (hA : runTk T n0 ls.toArray L A st = some s1)
    (hH : StepsT P ls.toArray L t s1 s2) (h2 : Runs P X ls.toArray (ls.drop n) s2 s3) (hk : W P X y (s3.keep ks) Q) : W P X (.seq (.region id ls.toArray true) y) st Q :=
  W_seq (W_tree hm hB hT hX hA hH h2 (W_le (Le.keep ks s3) hk))
end
end Go.Ev
/-
  Reading: what the arguments of a law are, as abstract values.
-/
namespace Go.Ev
open Go Go.Deep

/-- kinds of cells -/
inductive Tc where
  | bool
  | int (k : IntKind)
  | str
  | lst (one : Bool) (cs : List Tc)

mutual
def okC : Tc → V → Prop
  | .bool, v => ∃ b, v = .bool b
  | .int k, v => ∃ n, v = .int k n ∧ (Lit.int k n).wf = true
  | .str, v => ∃ l, v = .str l ∧ l.length ≤ reachBytes
  | .lst one cs, v => ∃ xs, v = .lst false cs.length xs ∧ xs.length ≤ reachBytes ∧ ∀ x ∈ xs, if one = true then okL cs [x] else ∃ vs, x = .agg vs ∧ okL cs vs
def okL : List Tc → List V → Prop
  | [], [] => True
  | c :: cs, v :: vs => okC c v ∧ okL cs vs
  | _, _ => False
end

theorem okL_len : ∀ {cs : List Tc} {vs : List V}, okL cs vs → vs.length = cs.length
  | [], [], _ => rfl
  | _ :: _, _ :: _, h => by simp only [okL] at h; simp [okL_len h.2]
  | [], _ :: _, h => by simp [okL] at h
  | _ :: _, [], h => by simp [okL] at h

theorem okL_append : ∀ {cs ds : List Tc} {vs ws : List V}, okL cs vs → okL ds ws → okL (cs ++ ds) (vs ++ ws)
  | [], _, [], _, _, h => h
  | _ :: _, _, _ :: _, _, h, k => by simp only [okL, List.cons_append] at h ⊢; exact ⟨h.1, okL_append h.2 k⟩
  | [], _, _ :: _, _, h, _ => by simp [okL] at h
  | _ :: _, _, [], _, h, _ => by simp [okL] at h

theorem okC_cells {c : Tc} {v : V} (h : okC c v) : v.cells = [v] := by
  cases c <;> simp only [okC] at h
  · obtain ⟨b, rfl⟩ := h; rfl
  · obtain ⟨n, rfl, _⟩ := h; rfl
  · obtain ⟨l, rfl, _⟩ := h; rfl
  · obtain ⟨xs, rfl, _⟩ := h; rfl

theorem okL_flat : ∀ {cs : List Tc} {vs : List V}, okL cs vs → flat vs = vs
  | [], [], _ => rfl
  | _ :: _, _ :: _, h => by simp only [okL] at h; rw [flat_cons, okC_cells h.1, okL_flat h.2]; rfl
  | [], _ :: _, h => by simp [okL] at h
  | _ :: _, [], h => by simp [okL] at h

/-- an element: by itself, or a struct -/
def elV (one : Bool) (vs : List V) : V := if one = true then vs.headD .junk else .agg vs

theorem elV_cells {one : Bool} {cs : List Tc} {vs : List V} (h : okL cs vs) (h1 : one = true → cs.length = 1) : (elV one vs).cells = vs := by
  unfold elV
  split
  · rename_i ho
    have hl := okL_len h
    rw [h1 ho] at hl
    match vs, hl with
    | [v], _ =>
      match cs, h1 ho with
      | [c], _ => simp only [okL] at h; exact okC_cells h.1
  · rfl

/-- the fields of a struct -/
def shpF (P : Program) (f : TypeId → Option (Bool × List Tc)) : Nat → List Field → Option (List Tc)
  | _, [] => some []
  | off, g :: gs =>
    match f g.type, shpF P f (off + P.cellsOf g.type) gs with
    | some (_, cs), some ds => if g.offset = off ∧ P.cellsOf g.type = cs.length then some (cs ++ ds) else none
    | _, _ => none

/-- the kinds of a type's cells; is it one cell by itself? -/
def shpT (P : Program) : Nat → TypeId → Option (Bool × List Tc)
  | 0, _ => none
  | n + 1, t =>
    match P.underlying t with
    | some .bool => some (true, [.bool])
    | some (.int k) => some (true, [.int k])
    | some .string => some (true, [.str])
    | some (.slice e) => match shpT P n e with
      | some (one, cs) => if P.cellsOf e = cs.length ∧ 0 < cs.length ∧ 0 < P.bytesOf e ∧ (one = true → cs.length = 1) then some (true, [.lst one cs]) else none
      | none => none
    | some (.struct fs) => match shpF P (shpT P n) 0 fs.toList with
      | some cs => if P.cellsOf t = cs.length then some (false, cs) else none
      | none => none
    | _ => none

section
variable {H : Type} {enc : TypeId × Value → H} {P : Program} {w : World}

/-- what is read of cells -/
def RdOk (w : World) (cs : List Tc) (us : List Value) : Prop :=
  ∃ vs, okL cs vs ∧ (∀ u ∈ us, u.oneCell' = true) ∧ ∀ m, R w (fun b => b < w.heap.size) m (.list vs us) z0

theorem RdOk.append {cs ds : List Tc} {us vs : List Value} (h : RdOk w cs us) (k : RdOk w ds vs) : RdOk w (cs ++ ds) (us ++ vs) := by
  obtain ⟨a, h1, h2, h3⟩ := h
  obtain ⟨b, k1, k2, k3⟩ := k
  refine ⟨a ++ b, okL_append h1 k1, fun u hu => ?_, fun m => ?_⟩
  · rcases List.mem_append.1 hu with h | h
    · exact h2 u h
    · exact k2 u h
  · exact (R.ljoin (h3 m) (k3 m)).zero fun z => by simp [z0]

theorem R_cells {fr : Nat → Prop} {m : Mp} {b : Nat} : ∀ {vs : List V} {us : List Value} {off : Nat}, R w fr m (.list vs us) z0 → (∀ u ∈ us, u.oneCell' = true) → (∀ j u, us[j]? = some u → w.cell? ⟨b, off + j, none⟩ = some u) →
    R w fr m (.cells b off vs) z0
  | [], us, off, _, _, _ => .cnil
  | v :: vs, us, off, h, h1, hc => by
    generalize hz : z0 = c at h
    cases h with
    | lcons g1 g2 he =>
      rename_i u us' c1 c2
      subst hz
      have e1 : c1 = z0 := funext fun z => by have := he z; simp [z0] at *; omega
      have e2 : c2 = z0 := funext fun z => by have := he z; simp [z0] at *; omega
      subst e1; subst e2
      exact .ccons (by have := hc 0 u rfl; simpa using this) (h1 u (by simp)) g1 (R_cells g2 (fun x hx => h1 x (by simp [hx])) (fun j x hx => by have := hc (j + 1) x (by simpa using hx); rwa [show off + (j + 1) = off + 1 + j from by omega] at this)) (fun z => rfl)

theorem R_cells_append {fr : Nat → Prop} {m : Mp} {b : Nat} {xs ys : List V} {off : Nat} (h : R w fr m (.cells b off xs) z0) (k : R w fr m (.cells b (off + xs.length) ys) z0) : R w fr m (.cells b off (xs ++ ys)) z0 := by
  induction xs generalizing off with
  | nil => simpa using k
  | cons x xs ih =>
    generalize hz : z0 = c at h
    cases h with
    | ccons hc h1c h1 h2 he =>
      rename_i u c1 c2
      subst hz
      have e1 : c1 = z0 := funext fun z => by have := he z; simp [z0] at *; omega
      have e2 : c2 = z0 := funext fun z => by have := he z; simp [z0] at *; omega
      subst e1; subst e2
      exact .ccons hc h1c h1 (ih h2 (by rwa [List.length_cons, show off + (xs.length + 1) = off + 1 + xs.length from by omega] at k)) (fun z => rfl)

/-- many elements, one behind another -/
theorem R_elems {fr : Nat → Prop} {m : Mp} {b k : Nat} (f : Nat → V) : ∀ (n off : Nat), (∀ i, i < n → (f i).cells.length = k ∧ R w fr m (.cells b (off + i * k) (f i).cells) z0) → R w fr m (.cells b off (flat ((List.range n).map f))) z0
  | 0, off, _ => by simpa using R.cnil
  | n + 1, off, h => by
    rw [List.range_succ, List.map_append, flat_append]
    refine R_cells_append (R_elems f n off fun i hi => h i (by omega)) ?_
    have hu : uni k ((List.range n).map f) := fun x hx => by
      obtain ⟨i, hi, rfl⟩ := List.mem_map.1 hx
      exact (h i (by have := List.mem_range.1 hi; omega)).1
    rw [flat_length hu, List.length_map, List.length_range]
    simpa using (h n (by omega)).2

theorem weightsAll_mem {e : TypeId} {d : DataW H} : ∀ {ds : List (DataW H)}, d ∈ ds → ∀ x ∈ d.weights P e, x ∈ DataW.weightsAll P e ds
  | a :: r, h, x, hx => by
    simp only [DataW.weightsAll, List.mem_append]
    rcases List.mem_cons.1 h with rfl | h
    · exact .inl hx
    · exact .inr (weightsAll_mem h x hx)

theorem rd_ok (n : Nat) : ∀ {t : TypeId} {one : Bool} {cs : List Tc}, shpT P n t = some (one, cs) → ∀ {fuel : Nat} {us : List Value} {x : DataW H × List MemPlace},
    DataW.trod enc P w 0 (fun _ => true) true fuel t us = some x → (∀ y ∈ x.1.weights P t, y ≤ reachBytes) → us.length = cs.length ∧ RdOk w cs us := by
  induction n with
  | zero => intro t one cs h; simp [shpT] at h
  | succ n ih =>
    intro t one cs h fuel us x hx hw
    unfold shpT at h
    split at h
    · rename_i ht
      obtain ⟨b, rfl, rfl⟩ := DataW.trod_bool ht hx
      cases h
      exact ⟨rfl, [.bool b], ⟨⟨b, rfl⟩, trivial⟩, fun u hu => by simp at hu; subst hu; rfl, fun m => .lcons (.bool b) .lnil (fun _ => rfl)⟩
    · rename_i k ht
      obtain ⟨i, rfl, rfl, hwf⟩ := DataW.trod_int ht hx
      cases h
      exact ⟨rfl, [.int k i], ⟨⟨i, rfl, hwf⟩, trivial⟩, fun u hu => by simp at hu; subst hu; rfl, fun m => .lcons (.int k i) .lnil (fun _ => rfl)⟩
    · rename_i ht
      obtain ⟨s, rfl, rfl, hs⟩ := DataW.trod_string ht hx
      cases h
      refine ⟨rfl, [.str s.data.toList], ⟨⟨_, rfl, hw _ (by simp [DataW.weights])⟩, trivial⟩, fun u hu => by simp at hu; subst hu; rfl, fun m => .lcons ?_ .lnil (fun _ => rfl)⟩
      have : s = (⟨s.data.toList.toArray⟩ : ByteArray) := by cases s; simp
      have h2 : R w (fun b => b < w.heap.size) m (.one (.str s.data.toList) (.string ⟨s.data.toList.toArray⟩)) z0 := .str _
      rwa [← this] at h2
    · rename_i e ht
      split at h
      · rename_i one' cs' he
        split at h
        · rename_i hc
          obtain ⟨hc1, hc2, hc3, hc4⟩ := hc
          cases h
          rcases open_slice ht hx with ⟨rfl, rfl⟩ | ⟨a, len, cap, m, f2, D, Pl, rfl, hb, hl, hcm, hm, rfl, hel⟩
          · exact ⟨rfl, [.lst false cs'.length []], ⟨⟨[], rfl, Nat.zero_le _, fun x hx => by simp at hx⟩, trivial⟩, fun u hu => by simp at hu; subst hu; rfl, fun m => .lcons .nil .lnil (fun _ => rfl)⟩
          · simp only [if_true] at hm
            rw [hm] at hel hw
            clear hm
            have hw1 := hw ((len + (cap - len)) * P.bytesOf e) (by simp [DataW.weights, ht])
            have hlen : len ≤ reachBytes := by
              have : len * 1 ≤ (len + (cap - len)) * P.bytesOf e := Nat.mul_le_mul (by omega) hc3
              omega
            have hE : ∀ i, i < len → ∃ vs us, okL cs' vs ∧ us.length = cs'.length ∧ w.cells? 0 (a.add (i * P.cellsOf e)) (P.cellsOf e) = some us ∧ (∀ u ∈ us, u.oneCell' = true) ∧ ∀ m, R w (fun b => b < w.heap.size) m (.list vs us) z0 := by
              intro i hi
              obtain ⟨us, h1, h2⟩ := hel i (by omega)
              obtain ⟨g1, vs, g2, g3, g4⟩ := ih he h2 (fun y hy => hw y (by
                simp only [DataW.weights, ht, List.mem_cons, List.mem_append]
                exact .inr (.inl (weightsAll_mem (List.mem_map.2 ⟨i, List.mem_range.2 hi, rfl⟩) y hy))))
              exact ⟨vs, us, g2, g1, h1, g3, g4⟩
            rcases Nat.eq_zero_or_pos len with hl0 | hlp
            · subst hl0
              refine ⟨rfl, [.lst false cs'.length []], ⟨⟨[], rfl, Nat.zero_le _, fun x hx => by simp at hx⟩, trivial⟩, fun u hu => by simp at hu; subst hu; rfl, fun m => .lcons ?_ .lnil (fun _ => rfl)⟩
              rcases Nat.eq_zero_or_pos cap with hc0 | hcp
              · subst hc0; exact .nilz
              · obtain ⟨us, h1, _⟩ := hel 0 hcp
                obtain ⟨_, k1, k2⟩ := World.cells?_some h1
                have k3 := k2 0 (by omega)
                rw [List.getElem?_eq_getElem (by omega)] at k3
                have hsp := World.cell?_spot k3
                obtain ⟨ab, ao, asp⟩ := a
                simp [Addr.add] at hsp
                subst hsp
                simp [Addr.add] at k3
                exact .frz (xs := []) (lt_of_cell k3) (lt_of_cell k3) (fun x hx => by simp at hx) (by simp) .cnil
            · have hE2 : ∃ VS : Nat → List V, ∀ i, i < len → ∃ us, okL cs' (VS i) ∧ us.length = cs'.length ∧ w.cells? 0 (a.add (i * P.cellsOf e)) (P.cellsOf e) = some us ∧ (∀ u ∈ us, u.oneCell' = true) ∧ ∀ m, R w (fun b => b < w.heap.size) m (.list (VS i) us) z0 := by
                refine ⟨fun i => if h : i < len then (hE i h).choose else [], fun i hi => ?_⟩
                simp only [dif_pos hi]
                exact (hE i hi).choose_spec
              obtain ⟨VS, hVS⟩ := hE2
              obtain ⟨_, _, g1, g2, _⟩ := hVS 0 hlp
              obtain ⟨_, k1, k2⟩ := World.cells?_some g2
              have k3 := k2 0 (by omega)
              rw [List.getElem?_eq_getElem (by omega)] at k3
              have hsp := World.cell?_spot k3
              obtain ⟨ab, ao, asp⟩ := a
              simp [Addr.add] at hsp
              subst hsp
              simp [Addr.add] at k3
              have hlt := lt_of_cell k3
              have hxl : ((List.range len).map fun i => elV one' (VS i)).length = len := by simp
              refine ⟨rfl, [.lst false cs'.length ((List.range len).map fun i => elV one' (VS i))], ⟨⟨_, rfl, by rw [hxl]; exact hlen, fun x hx => ?_⟩, trivial⟩, fun u hu => by simp at hu; subst hu; rfl, fun m => .lcons ?_ .lnil (fun _ => rfl)⟩
              · obtain ⟨i, hi, rfl⟩ := List.mem_map.1 hx
                have hi := List.mem_range.1 hi
                obtain ⟨_, q1, _⟩ := hVS i hi
                unfold elV
                split
                · rename_i ho
                  have hl := okL_len q1
                  rw [hc4 ho] at hl
                  match hV : VS i, hl with
                  | [v], _ => rw [hV] at q1; exact q1
                · exact ⟨_, rfl, q1⟩
              · have hfin : R w (fun b => b < w.heap.size) noIds (.cells ab ao (flat ((List.range len).map fun i => elV one' (VS i)))) z0 := by
                  refine R_elems (k := cs'.length) _ len ao fun i hi => ?_
                  obtain ⟨us, q1, q2, q3, q4, q5⟩ := hVS i hi
                  rw [elV_cells q1 hc4]
                  refine ⟨okL_len q1, R_cells (q5 noIds) q4 fun j u hu => ?_⟩
                  obtain ⟨_, p1, p2⟩ := World.cells?_some q3
                  have hj := (List.getElem?_eq_some_iff.1 hu).1
                  have := p2 j (by omega)
                  rw [hu, hc1] at this
                  rw [add_add, add_none] at this
                  rwa [Nat.add_assoc]
                have := R.frz (m := m) (w := w) (fr := fun b => b < w.heap.size) (k := cs'.length) (xs := (List.range len).map fun i => elV one' (VS i)) (b := ab) (off := ao) (cap := cap) hlt hlt (fun x hx => by
                  obtain ⟨i, hi, rfl⟩ := List.mem_map.1 hx
                  have hi := List.mem_range.1 hi
                  obtain ⟨_, q1, _⟩ := hVS i hi
                  rw [elV_cells q1 hc4]; exact okL_len q1) (by rw [hxl]; exact hl) hfin
                rwa [hxl] at this
        · cases h
      · cases h
    · rename_i fs ht
      split at h
      · rename_i cs' hf
        split at h
        · rename_i hc
          cases h
          obtain ⟨xs, f2, _, rfl, hl, hlen, hel⟩ := DataW.trod_struct ht hx
          refine ⟨by rw [hl, hc], ?_⟩
          have key : ∀ (gs : List Field) (off : Nat) (cs : List Tc) (us : List Value) (ys : List (DataW H × List MemPlace)), shpF P (shpT P n) off gs = some cs → us.length = cs.length → ys.length = gs.length →
              (∀ (i : Nat) (f : Field), gs[i]? = some f → DataW.trod enc P w 0 (fun _ => true) true f2 f.type ((us.drop (f.offset - off)).take (P.cellsOf f.type)) = ys[i]?) → (∀ y ∈ DataW.weightsEach P (gs.map (·.type)) (ys.map (·.1)), y ≤ reachBytes) → RdOk w cs us := by
            intro gs
            induction gs with
            | nil =>
              intro off cs us ys h hu _ _ _
              simp [shpF] at h
              subst h
              have : us = [] := List.eq_nil_of_length_eq_zero (by simpa using hu)
              subst this
              exact ⟨[], trivial, fun u hu => by simp at hu, fun m => .lnil⟩
            | cons g gs ihg =>
              intro off cs us ys h hu hyl hys hwy
              simp only [shpF] at h
              split at h
              · rename_i o1 c1 c2 hg hgs
                split at h
                · rename_i hoff
                  cases h
                  match ys, hyl with
                  | y :: ys, hyl =>
                    have h0 := hys 0 g rfl
                    rw [hoff.1, Nat.sub_self, List.drop_zero] at h0
                    simp only [List.map_cons, DataW.weightsEach, List.mem_append] at hwy
                    obtain ⟨q1, q2⟩ := ih hg h0 (fun z hz => hwy z (.inl hz))
                    have hle : ∀ (i : Nat) (f : Field), gs[i]? = some f → off + P.cellsOf g.type ≤ f.offset := by
                      have : ∀ (gs : List Field) (o : Nat) (cs : List Tc), shpF P (shpT P n) o gs = some cs → ∀ (i : Nat) (f : Field), gs[i]? = some f → o ≤ f.offset := by
                        intro gs
                        induction gs with
                        | nil => intro o cs _ i f hf; simp at hf
                        | cons g gs ih2 =>
                          intro o cs h i f hf
                          simp only [shpF] at h
                          split at h
                          · rename_i a1 a2 a3 a4 a5
                            split at h
                            · rename_i hh
                              cases i with
                              | zero => simp at hf; subst hf; omega
                              | succ i => have := ih2 _ _ a5 i f (by simpa using hf); omega
                            · cases h
                          · cases h
                      exact fun i f hf => this gs _ _ hgs i f hf
                    have hrest := ihg (off + P.cellsOf g.type) c2 (us.drop (P.cellsOf g.type)) ys hgs (by rw [List.length_drop, hu, List.length_append]; omega) (by simpa using hyl) (fun i f hf => by
                      have := hys (i + 1) f (by simpa using hf)
                      rw [List.getElem?_cons_succ] at this
                      rw [← this, List.drop_drop]
                      have := hle i f hf
                      congr 3
                      omega) (fun z hz => hwy z (.inr hz))
                    have := q2.append hrest
                    rwa [List.take_append_drop] at this
                · cases h
              · cases h
          exact key fs.toList 0 _ us xs hf (by rw [hl, hc]) (by simpa using hlen) (fun i f hf => by
            have := hel i f (by simpa using hf)
            simpa using this) (fun y hy => hw y (by simp only [DataW.weights, ht]; exact hy))
        · cases h
      · cases h
    · cases h

/-- the arguments -/
def shpA (P : Program) (n : Nat) : List TypeId → Option (List (Bool × List Tc))
  | [] => some []
  | t :: ts => match shpT P n t, shpA P n ts with
    | some x, some xs => some (x :: xs)
    | _, _ => none

def okA : List (Bool × List Tc) → List V → Prop
  | [], [] => True
  | x :: r, v :: vs => (if x.1 = true then okL x.2 [v] else ∃ ws, v = .agg ws ∧ okL x.2 ws) ∧ okA r vs
  | _, _ => False

open WideShapes ChangeShapes in
theorem shpT_form {n : Nat} {t : TypeId} {one : Bool} {cs : List Tc} (h : shpT P n t = some (one, cs)) {r : Reach} {base : Nat} {v : Value} (hv : Value.okWide P w r base t v) :
    (one = true ∧ v.cells.toList = [v] ∧ cs.length = 1) ∨ (one = false ∧ ∃ us, v = .agg us) := by
  cases n with
  | zero => simp [shpT] at h
  | succ n =>
    unfold shpT at h
    split at h
    · rename_i ht; cases h; obtain ⟨b, rfl⟩ := okWide_bool ht hv; exact .inl ⟨rfl, rfl, rfl⟩
    · rename_i k ht; cases h; obtain ⟨b, rfl⟩ := okWide_int ht hv; exact .inl ⟨rfl, rfl, rfl⟩
    · rename_i ht; cases h; obtain ⟨b, rfl⟩ := okWide_string ht hv; exact .inl ⟨rfl, rfl, rfl⟩
    · rename_i e ht
      obtain ⟨a, len, cap, rfl⟩ := okWide_slice ht hv
      split at h
      · split at h
        · cases h; exact .inl ⟨rfl, rfl, rfl⟩
        · cases h
      · cases h
    · rename_i fs ht
      obtain ⟨us, rfl, _⟩ := okWide_struct ht hv
      split at h
      · split at h
        · cases h; exact .inr ⟨rfl, us, rfl⟩
        · cases h
      · cases h
    · cases h

theorem rdA_ok {n : Nat} {r : Reach} {base : Nat} : ∀ {ts : List TypeId} {css : List (Bool × List Tc)}, shpA P n ts = some css → ∀ {args : List Value} {ds : List (DataW H)} {p : List MemPlace},
    DataW.TrodAll enc P w 0 (fun _ => true) true ts args ds p → (∀ (j : Nat) t v, ts[j]? = some t → args[j]? = some v → Value.okWide P w r base t v) → (∀ y ∈ DataW.weightsEach P ts ds, y ≤ reachBytes) →
    ∃ vs, okA css vs ∧ ∀ m, R w (fun b => b < w.heap.size) m (.list vs args) z0
  | [], css, h, args, ds, p, hA, _, _ => by
    simp [shpA] at h
    subst h
    obtain ⟨rfl, rfl, rfl⟩ := ChangeShapes.trodAll_nil hA
    exact ⟨[], trivial, fun m => .lnil⟩
  | t :: ts, css, h, args, ds, p, hA, hv, hw => by
    obtain ⟨v, vs, d, ds', a, b, rfl, rfl, rfl, h1, h2⟩ := ChangeShapes.trodAll_cons hA
    simp only [shpA] at h
    split at h
    · rename_i x xs hx hxs
      cases h
      obtain ⟨one, cs⟩ := x
      simp only [DataW.weightsEach, List.mem_append] at hw
      obtain ⟨ws, k1, k2⟩ := rdA_ok hxs h2 (fun j t v ht hv' => hv (j + 1) t v (by simpa using ht) (by simpa using hv')) (fun y hy => hw y (.inr hy))
      obtain ⟨fuel, hf⟩ := h1
      obtain ⟨g0, us, g1, g2, g3⟩ := rd_ok n hx hf (fun y hy => hw y (.inl hy))
      rcases shpT_form hx (hv 0 t v rfl rfl) with ⟨rfl, hc, hl⟩ | ⟨rfl, us', rfl⟩
      · rw [hc] at g3
        have hlu := okL_len g1
        rw [hl] at hlu
        match us, hlu with
        | [u], _ =>
          refine ⟨u :: ws, ⟨g1, k1⟩, fun m => ?_⟩
          have := (R.ljoin (g3 m) (k2 m)).zero fun z => by simp [z0]
          exact this
      · refine ⟨.agg us :: ws, ⟨⟨us, rfl, g1⟩, k1⟩, fun m => .lcons ?_ (k2 m) (fun _ => rfl)⟩
        have := R.agg (g3 m)
        simpa [Value.cells] using this
    · cases h

/-- a law returns true, and leaves all as it was -/
theorem law_calls {f : FuncId} {fn : Func} {s : ChangeSpec} {fresh handsOn again : Bool} {W : World} {base : Nat} {args : Array Value} {ds gs : List (DataW H)} {before : List MemPlace} {tb : TypeId} {n : Nat} {css : List (Bool × List Tc)}
    (hl : laidOutB P = true) (hpar : (fn.params.toList.all fun t => P.readableRec t && decide (t < P.types.size)) = true)
    (hv : s.vars = []) (hres : fn.resultTypes = #[tb]) (htb : P.underlying tb = some .bool)
    (hfn : ∀ ds : List (DataW H), ds.length = fn.params.size → s.fn H (ds ++ []) = ⟨[.lit (.bool true)], ds, []⟩)
    (hsh : shpA P n fn.params.toList = some css)
    (hval : ∀ (j : Nat) t v, fn.params[j]? = some t → args[j]? = some v → Value.okWide P W .any base t v)
    (hW : DataW.Whole enc P fn.params.toList s.vars false W args.toList ds gs before)
    (hw : (DataW.weightsEach P (fn.params.toList ++ s.plain.varTypes P) (ds ++ gs)).all (· ≤ reachBytes) = true)
    (hct : ∀ vs, okA css vs → Ct P f vs [] (.bool true) []) :
    Calls P f args W fun e W' => ∃ v, e = .returned v ∧ s.post enc P fn false fresh handsOn again W args v W' := by
  have hW0 := hW
  obtain ⟨p, q, hA, hV, rfl, hfz, hap⟩ := hW
  rw [hv] at hV
  obtain ⟨rfl, rfl⟩ := ChangeShapes.trodVars_none hV
  have hlt : ∀ x ∈ p, x.block < W.heap.size := fun x hx => by simpa using hW0.lt x (by simpa using hx)
  have hlen : ∀ {ts : List TypeId} {vs : List Value} {ds : List (DataW H)} {p : List MemPlace}, DataW.TrodAll enc P W 0 (fun _ => true) true ts vs ds p → ds.length = ts.length := by
    intro ts
    induction ts with
    | nil => intro vs ds p h; obtain ⟨_, rfl, _⟩ := ChangeShapes.trodAll_nil h; rfl
    | cons t ts ih => intro vs ds p h; obtain ⟨_, _, _, _, _, _, _, rfl, _, _, h2⟩ := ChangeShapes.trodAll_cons h; simp [ih h2]
  have hwe : ∀ {ts us : List TypeId} {vs : List Value} {ds : List (DataW H)} {p : List MemPlace}, DataW.TrodAll enc P W 0 (fun _ => true) true ts vs ds p → DataW.weightsEach P (ts ++ us) (ds ++ []) = DataW.weightsEach P ts ds := by
    intro ts
    induction ts with
    | nil => intro us vs ds p h; obtain ⟨_, rfl, _⟩ := ChangeShapes.trodAll_nil h; cases us <;> rfl
    | cons t ts ih => intro us vs ds p h; obtain ⟨_, _, _, _, _, _, _, rfl, _, _, h2⟩ := ChangeShapes.trodAll_cons h; simp only [List.cons_append, DataW.weightsEach]; rw [ih h2]
  obtain ⟨vs, h1, h2⟩ := rdA_ok hsh hA (fun j t v ht hv => hval j t v (by simpa using ht) (by simpa using hv)) (fun y hy => by
    rw [hwe hA, List.all_eq_true] at hw
    simpa using hw y hy)
  have hfr : ∀ b, b < W.heap.size → frz ⟨W, fun b => b < W.heap.size, fun b => ∃ id : Nat, 0 < (fun (_ : Nat) => z0) id b, noIds, 0⟩ (fun _ => z0) b := fun b hb => ⟨.inl hb, fun _ => rfl⟩
  have hinv : Inv ⟨W, fun b => b < W.heap.size, fun b => ∃ id : Nat, 0 < (fun (_ : Nat) => z0) id b, noIds, 0⟩ W [] noIds (fun _ => z0) :=
    ⟨Nat.le_refl _, fun _ _ _ => rfl, rfl, rfl, rfl, fun id o h => by simp at h, fun b i j h => by simp [z0] at h, fun i b => Nat.zero_le _, fun i b h => by simp [z0] at h, fun _ _ => rfl, fun _ _ => rfl, fun _ _ h => by simp [noIds] at h, Nat.le_refl _, fun _ _ => rfl⟩
  have hcall := hct vs h1 W (fun b => b < W.heap.size) noIds (fun _ => z0) args.toList (fun b hb => ⟨hb, fun _ => rfl⟩) hinv
    ((h2 noIds).mono (Nat.le_refl _) (fun b hb _ => ⟨hfr b hb, rfl⟩) (fun _ _ => rfl) trivial (fun id x h => by simp [noIds] at h))
  rw [Array.toArray_toList] at hcall
  refine Calls.mono hcall ?_
  rintro e W' ⟨u, m', cn', d, rfl, hi, hR, _⟩
  have hu := R.inv_bool hR
  subst hu
  have hb : RowKit.Below W.heap.size W W' := ⟨hi.os, hi.tape, hi.output, hi.le, fun k hk => hi.kept k hk (by rintro ⟨_, h⟩; simp [z0] at h)⟩
  refine ⟨.bool true, rfl, ?_⟩
  have hps := hfn ds (by rw [hlen hA]; simp)
  have hargs : ∀ sp : Nat → Bool, (∀ b, b < W.heap.size → sp b = true) → DataW.TrodAll enc P W' 0 sp true fn.params.toList args.toList ds p := by
    intro sp hsp
    have key : ∀ {ts : List TypeId} {vs : List Value} {ds : List (DataW H)} {p : List MemPlace}, (ts.all fun t => P.readableRec t && decide (t < P.types.size)) = true → (∀ x ∈ p, x.block < W.heap.size) → DataW.TrodAll enc P W 0 (fun _ => true) true ts vs ds p →
        DataW.TrodAll enc P W' 0 sp true ts vs ds p := by
      intro ts
      induction ts with
      | nil => intro vs ds p _ _ h; obtain ⟨rfl, rfl, rfl⟩ := ChangeShapes.trodAll_nil h; rfl
      | cons t ts ih =>
        intro vs ds p hall hlt h
        obtain ⟨v, vs, d, ds', a, b, rfl, rfl, rfl, g1, g2⟩ := ChangeShapes.trodAll_cons h
        simp only [List.all_cons, Bool.and_eq_true, decide_eq_true_eq] at hall
        refine ⟨a, b, ?_, ih hall.2 (fun x hx => hlt x (List.mem_append_right _ hx)) g2, rfl⟩
        exact WideElems.Trod_stays hl hall.1.1 hall.1.2 g1 (fun x hx => hb.same (hlt x (List.mem_append_left _ hx))) (fun x hx => hsp _ (hlt x (List.mem_append_left _ hx)))
    exact key hpar hlt hA
  have hresd : ∀ (b : Nat) (sp : Nat → Bool) (hd : Bool), DataW.TrodAll enc P W' b sp hd fn.resultTypes.toList ((Value.bool true).resultList fn.resultTypes.size) [.lit (.bool true)] [] := by
    intro b sp hd
    rw [hres]
    exact ChangeShapes.trodAll_mk1 (RowKit.shut_bool htb true)
  refine ⟨ds, [], p ++ [], [], p, [], hW0, by rw [hps]; exact hresd _ _ _, by rw [hps]; exact hargs _ (fun b hb => by simpa using hb), by rw [hps, hv]; rfl, World.keptBut_mono (fun x hx => ⟨by simpa using hx, .inr (.inl hx)⟩) (hb.frame _), fun _ => ⟨?_, ?_⟩⟩
  · exact RowKit.ok_one hres rfl (RowKit.okWide_bool_mk htb true)
  · refine ⟨.lit (.bool true) :: ds, [], p ++ [], ⟨p, [], ?_, by rw [hv]; rfl, rfl, ?_, fun h => by cases h⟩, fun x hx _ => hx⟩
    · have := ChangeShapes.trodAll_append (hargs (fun _ => true) (fun _ _ => rfl)) (hresd 0 (fun _ => true) true)
      simpa using this
    · intro b off hx
      have hb2 := hlt (.cell b off) (by simpa using hx)
      have := hfz b off hx
      rw [← this]
      exact hb.frozen hb2
end
end Go.Ev
namespace Go.Ev
open Go
/-- the closed facts of a row, one by one (so that each is reckoned by itself) -/
theorem joined_of {P : Program} {f : FuncId} {fn : Func} {s : ChangeSpec} {c : OpenClaim}
    (h1 : c.wf (OpenSpec.ofChange s) = true) (h2 : laidOutB P = true) (h3 : mapsRowed P = true)
    (h4 : fn.params.all (P.readableRec ·) = true) (h5 : namedTie P c.named s.vars = true)
    (h6 : ((c.stops == []) && (P.stops == []) && (c.knobs == []) && (P.stopKnobs == [])) = true)
    (h7 : (c.inPlace == P.inPlace f) = true) (h8 : (c.unfollowed == P.unfollowed f) = true) (h9 : (c.recurses == P.recurses f) = true) (h10 : (c.named == P.varsNamed f) = true)
    (h11 : (c.maps == (fn.params.toList ++ s.plain.varTypes P).any (P.mapsRec ·)) = true) (h12 : (c.ifaces == (fn.params.toList ++ s.plain.varTypes P).any (P.ifacesRec ·)) = true) (h13 : (c.mapsOut == P.mapsAmong fn.resultTypes.toList) = true)
    (h14 : (c.loops == (fn.params.toList ++ s.plain.varTypes P).any (P.loopsFrom ·)) = true) (h15 : (c.wideKeys == (fn.params.toList ++ s.plain.varTypes P ++ fn.resultTypes.toList).any (P.wideKeysFrom ·)) = true)
    (h16 : s.vars.all (P.varReadable ·) = true) (h17 : fn.resultTypes.all (fun t => P.readableRec t && decide (t < P.types.size)) = true) (h18 : (c.ifacesOut == fn.resultTypes.toList.any (P.ifacesRec ·)) = true)
    (h19 : (c.loopsOut == fn.resultTypes.toList.any (P.loopsFrom ·)) = true) (h20 : (c.plainKeys == P.plainKeys) = true) (h21 : (c.shortTexts.isNone && P.stopsHeard) = true) (h21b : P.mayEnter = true) (h22 : (c.lifted == P.liftsFinal) = true)
    (h23 : (P.make == some c.make) = true) (h24 : c.domain = [] ∧ c.kinds = []) (h25 : (c.pinned == c.pinnedBy) = true)
    (h26 : (c.veiled == (fn.params.toList ++ s.plain.varTypes P ++ fn.resultTypes.toList).any (P.veiledRec ·)) = true) (h27 : c.veiledFits P fn.params.toList (fn.params.toList ++ s.plain.varTypes P ++ fn.resultTypes.toList) = true) :
    joinedFacts P f fn s c = true := by
  simp only [Bool.and_eq_true] at h6 h21
  unfold joinedFacts
  rw [h24.1, h24.2]
  rw [h1, h2, h3, h4, h5, h6.1.1.1, h6.1.1.2, h6.1.2, h6.2, h7, h8, h9, h10, h11, h12, h13, h14, h15, h16, h17, h18, h19, h20, h21.1, h21.2, h21b, h22, h23, h25, h26, h27]
  rfl
end Go.Ev
/-! A region that draws its order: operations that only read and may come at any time from now on, and between them those that are ready alone. -/
namespace Go.Ev
open Go

/-- what comes: an operation that only reads and may come at any time from now on, or the one that alone is ready -/
inductive It where
  | pur (i : Nat)
  | one (i : Nat)

section
variable {P : Program} {ops : Array Oper} {Q : Exit → Act → World → Prop}

theorem wpAnyT_S {md : Region.Mode} {S S' : World → Prop} {n : Nat} (hS : ∀ w, S' w → S w) : ∀ (f : Nat) (listed : Array Bool) (a : Act) (w : World), wpAnyT P md ops Q S' n f listed a w → wpAnyT P md ops Q S n f listed a w
  | 0, _, _, _, h => h
  | f + 1, _, _, _, h => ⟨h.1, fun i hi => wpOp_mono (fun a' w' h' => ⟨fun ht => hS _ (h'.1 ht), wpAnyT_S hS f _ a' w' h'.2⟩) (h.2 i hi)⟩

def itB (md : Region.Mode) (ops : Array Oper) (n : Nat) : List It → Array Bool → Bool
  | .pur i :: r, listed => decide (i < n) && (Region.ready md ops listed).contains i && Region.free md ops listed i && itB md ops n r (listed.setIfInBounds i true)
  | .one i :: r, listed => decide (i < n) && decide (Region.ready md ops listed = [i]) && itB md ops n r (listed.setIfInBounds i true)
  | [], listed => Region.seqB md ops (ops.size - n) n listed
def itsB (md : Region.Mode) (ops : Array Oper) (n : Nat) (l : List It) : Bool :=
  Region.noSelect ops && decide (n < ops.size) && Region.sinkB md ops n && Region.chainB md ops n && decide (l.length = n) && itB md ops n l (Array.replicate ops.size false)

def HeadI (P : Program) (ops : Array Oper) (Q : Exit → Act → World → Prop) (n : Nat) : List It → (World → Prop) → Act → World → Prop
  | .pur i :: r, S, a, w => ∃ oi v, ops[i]? = some oi ∧ YieldsIf P ops S oi v a ∧ HeadI P ops Q n r S (a.put oi.dst v) w
  | .one i :: r, S, a, w => wpOp P ops Q i (fun a' w' => ∃ S' : World → Prop, (∀ x, S' x → S x) ∧ S' w' ∧ HeadI P ops Q n r S' a' w') a w
  | [], _, a, w => wpList P ops Q (ops.toList.drop n) a w

theorem wpAnyT_it {md : Region.Mode} {n : Nat} (hsel : Region.noSelect ops = true) (hn : n < ops.size) (hs : Region.sinkB md ops n = true) (hc : Region.chainB md ops n = true) (hQ : ∀ c a w, ¬ Q (.panic c) a w) :
    ∀ (l : List It) (S : World → Prop) (listed : Array Bool) (a : Act) (w : World), HeadInv md ops n listed → S w → itB md ops n l listed = true → HeadI P ops Q n l S a w →
      wpAnyT P md ops Q S n (l.length + (ops.size - n)) listed a w
  | .pur i :: r, S, listed, a, w, inv, hS, hB, ⟨oi, v, hi, hy, h⟩ => by
    simp only [itB, Bool.and_eq_true, decide_eq_true_eq] at hB
    obtain ⟨⟨⟨hin, hr⟩, hf⟩, hB⟩ := hB
    have hr' : i ∈ Region.ready md ops listed := by simpa using hr
    have := wpAnyT_it hsel hn hs hc hQ r S _ _ _ (inv.set hr' hin) hS hB h
    rw [show (It.pur i :: r).length + (ops.size - n) = (r.length + (ops.size - n)) + 1 from by simp; omega]
    exact wpAnyT_first hi (Region.noSelect_spec hsel) hs hc hn hin hQ _ listed a w inv (Region.free_spec hi hf) hr' hy hS this
  | .one i :: r, S, listed, a, w, inv, hS, hB, h => by
    simp only [itB, Bool.and_eq_true, decide_eq_true_eq] at hB
    obtain ⟨⟨hin, hr⟩, hB⟩ := hB
    rw [show (It.one i :: r).length + (ops.size - n) = (r.length + (ops.size - n)) + 1 from by simp; omega]
    refine ⟨fun h0 => (by rw [hr] at h0; cases h0), fun j hj => ?_⟩
    have hmem := hj
    rw [hr] at hj
    have hji : j = i := by simpa using hj
    subst hji
    have h : wpOp P ops Q j (fun a' w' => ∃ S' : World → Prop, (∀ x, S' x → S x) ∧ S' w' ∧ HeadI P ops Q n r S' a' w') a w := h
    exact wpOp_mono (fun a' w' ⟨S', h1, h2, h3⟩ => ⟨fun _ => h1 _ h2, wpAnyT_S h1 _ _ _ _ (wpAnyT_it hsel hn hs hc hQ r S' _ _ _ (inv.set hmem hin) h2 hB h3)⟩) h
  | [], S, listed, a, w, inv, hS, hB, h => by
    simp only [itB] at hB
    have h : wpList P ops Q (ops.toList.drop n) a w := h
    have hlen : (ops.toList.drop n).length = ops.size - n := by simp
    have := wpAnyT_tail (P := P) (Q := Q) (md := md) (S := S) (n := n) (ops.toList.drop n) n listed a w (Nat.le_refl _) (fun j => by simp) (fun h => by omega) inv.size (by rw [hlen]; exact hB) h
    rw [hlen] at this
    simpa using this

theorem wp_region_its {id : Nat} {S : World → Prop} {n : Nat} {l : List It} {a : Act} {w : World} (hm : P.follows .mixedOrders = true) (hB : itsB .any ops n l = true) (hQ : ∀ c a w, ¬ Q (.panic c) a w)
    (hS : S { w with drawn := w.drawn + 1 }) (h : HeadI P ops Q n l S a { w with drawn := w.drawn + 1 }) : (Code.region id ops true).wp P Q a w := by
  simp only [itsB, Bool.and_eq_true, decide_eq_true_eq] at hB
  obtain ⟨⟨⟨⟨⟨hsel, hn⟩, hs⟩, hc⟩, hAB⟩, hhead⟩ := hB
  have inv0 : HeadInv .any ops n (Array.replicate ops.size false) :=
    ⟨by simp, fun j oj _ hl => (by rw [getD_replicate_false] at hl; cases hl), fun t _ ht => getD_in (by simpa using ht) (getD_replicate_false _ _)⟩
  have := wpAnyT_it hsel hn hs hc hQ l S _ _ _ inv0 hS hhead h
  rw [show l.length + (ops.size - n) = ops.size from by omega] at this
  exact wp_region_any hm (wpAny_of_T _ _ _ _ this)
end

section
variable {P : Program} {X : Ctx} {st s1 s2 s3 : St} {Q : Exit → St → Prop} {T : Nat → Option TI} {ls : List Oper} {L : List Nat}

theorem runTk_okI (hT : TOK P T) {n0 n : Nat} {ops : Array Oper} {Qf : Exit → Act → World → Prop} {r : List It} {w : World} {m : Mp} {cn : Nat → Cnt} :
    ∀ {A : List Nat} {st s1 : St} {a : Act}, runTk T n0 ops L A st = some s1 → Inv X w st.ob m cn → Sl X w m cn st.tm a → a.defers = [] →
      (∀ a', Sl X w m cn s1.tm a' → a'.defers = [] → HeadI P ops Qf n r (Kr X cn L w) a' w) → HeadI P ops Qf n (A.map It.pur ++ r) (Kr X cn L w) a w
  | [], st, s1, a, h, hi, hs, hd, hk => by simp only [runTk] at h; cases h; exact hk a hs hd
  | i :: A, st, s1, a, h, hi, hs, hd, hk => by
    simp only [runTk] at h
    split at h
    · cases h
    · rename_i o ho
      split at h
      · rename_i hg
        split at h
        · rename_i hp
          split at h
          · rename_i x st' hx
            obtain ⟨u, hu, hR⟩ := (opB_okp (X := X) (L := L) hT hx hp.1 hp.2).1 w m cn a hi hs
            refine ⟨o, u, ho, .inl ⟨gd_ok hs hg, hu⟩, runTk_okI hT h hi ?_ (put_defers _ _ hd) hk⟩
            have := hs.set o.dst hR
            cases hod : o.dst <;> simpa [setD, hod] using this
          · cases h
        · cases h
      · rename_i hg
        refine ⟨o, undef, ho, .inr ⟨gd_ok hs hg, rfl⟩, runTk_okI hT h hi ?_ (put_defers _ _ hd) hk⟩
        have := hs.set o.dst (x := .tup []) (u := undef) (.tup .lnil)
        cases hod : o.dst <;> simpa [setD, hod] using this
      · cases h

/-- what comes, the objects L out of reach meanwhile -/
inductive StepsI (P : Program) (T : Nat → Option TI) (n0 : Nat) (ops : Array Oper) (L : List Nat) : List It → St → St → Prop
  | nil {s : St} : StepsI P T n0 ops L [] s s
  | pur {A : List Nat} {l r : List It} {s s1 s2 : St} (h : runTk T n0 ops L A s = some s1) (he : l = A.map It.pur ++ r) (k : StepsI P T n0 ops L r s1 s2) : StepsI P T n0 ops L l s s2
  | one {i : Nat} {o : Oper} {r : List It} {s s' s1 s2 : St} (ho : ops[i]? = some o) (hL : ∀ id ∈ L, id < s.ob.length)
      (h : ∀ X' : Ctx, X'.n0 = s.ob.length → Runs P X' ops [o] ⟨s.tm, hid L s.ob⟩ s') (he : (⟨s'.tm, unh s.ob L s'.ob⟩ : St) = s1) (k : StepsI P T n0 ops L r s1 s2) : StepsI P T n0 ops L (.one i :: r) s s2

theorem stepsI_ok (hT : TOK P T) {n n0 : Nat} {ops : Array Oper} {Qf : Exit → Act → World → Prop} {l : List It} (h : StepsI P T n0 ops L l st s1) :
    ∀ {w : World} {m : Mp} {cn : Nat → Cnt} {a : Act}, Inv X w st.ob m cn → Sl X w m cn st.tm a → a.defers = [] →
      (∀ w m cn a, Inv X w s1.ob m cn → Sl X w m cn s1.tm a → a.defers = [] → wpList P ops Qf (ops.toList.drop n) a w) → HeadI P ops Qf n l (Kr X cn L w) a w := by
  induction h with
  | nil => intro w m cn a hi hs hd hk; exact hk w m cn a hi hs hd
  | @pur A l r s s1 s2 h he k ih =>
    intro w m cn a hi hs hd hk
    subst he
    exact runTk_okI hT h hi hs hd fun a' hs2 hd2 => ih (runTk_ob h ▸ hi) hs2 hd2 hk
  | @one i o r s s' s1 s2 ho hL h he k ih =>
    intro w m cn a hi hs hd hk
    subst he
    obtain ⟨h1, h2⟩ := hi.hide L
    have hs' : Sl (ctxH X w m cn L s.ob.length) w m (cnH L cn) s.tm a := hs.mono (Nat.le_refl _) (fun b hb hf => ⟨h2 b hb hf, rfl⟩) (fun _ _ => rfl) trivial (fun _ _ h => ⟨h, rfl⟩)
    have hr := h (ctxH X w m cn L s.ob.length) rfl [] (fun e st => e = .normal ∧ st = s') (WL_nil ⟨rfl, rfl⟩) w m (cnH L cn) a h1 hs' hd
    have step : wpList P ops (post (ctxH X w m cn L s.ob.length) (fun e st => e = .normal ∧ st = s')) [o] a w := hr
    have fin : ∀ a' w', post (ctxH X w m cn L s.ob.length) (fun e st => e = .normal ∧ st = s') .normal a' w' → ∃ S' : World → Prop, (∀ x, S' x → Kr X cn L w x) ∧ S' w' ∧ HeadI P ops Qf n r S' a' w' := by
      rintro a' w' ⟨st2, m', cn', ⟨_, rfl⟩, hi', hs2, hd'⟩
      obtain ⟨u1, u2, u3, u4⟩ := hi.unhide hL hi'
      refine ⟨Kr X (cnU L cn cn') L w', fun x hx => ⟨Nat.le_trans hi'.le hx.1, fun b hb hc => ?_⟩, Kr.refl _,
        ih u1 (hs2.mono (Nat.le_refl _) (fun b _ hf => ⟨u2 b hf, rfl⟩) (fun _ _ => rfl) trivial (fun _ _ h => ⟨h, rfl⟩)) hd' hk⟩
      rw [hx.2 b (Nat.lt_of_lt_of_le hb hi'.le) (hc.imp (u4 b hb) (fun ⟨id, hid, hc⟩ => ⟨id, hid, by unfold cnU; rw [if_pos hid]; exact hc⟩)), u3 b hb hc]
    show wpOp P ops Qf i _ a w
    unfold wpOp
    simp only [ho]
    unfold wpList at step
    split
    · rename_i hw
      rw [if_pos hw] at step
      rcases step with step | ⟨_, a', w', st2, m', cn', ⟨h0, _⟩, _⟩
      · exact .inl (wp_mono2 (fun a' w' h => fin a' w' h) (fun e a' w' hne ⟨st2, m', cn', ⟨h0, _⟩, _⟩ => absurd h0 hne) step)
      · cases h0
    · rename_i hw
      rw [if_neg hw] at step
      exact fin _ _ step

theorem W_its {id n : Nat} {l : List It} (hm : P.follows .mixedOrders = true) (hB : itsB .any ls.toArray n l = true) (hT : TOK P T) {n0 : Nat} (hX : X.n0 = n0)
    (hH : StepsI P T n0 ls.toArray L l st s2) (h2 : Runs P X ls.toArray (ls.drop n) s2 s3) (hq : Q .normal s3) : W P X (.region id ls.toArray true) st Q := by
  intro w m cn a hi hs hd
  have hi' : Inv X { w with drawn := w.drawn + 1 } st.ob m cn := hi.drew
  have hs' : Sl X { w with drawn := w.drawn + 1 } m cn st.tm a := Ext.drew.Sl hs
  refine Code.wp_mono (Q := normQ (post X Q)) (fun e a' w' h => ?_) ?_
  · cases e <;> first | exact h | exact h.elim
  refine wp_region_its (S := Kr X cn L { w with drawn := w.drawn + 1 }) hm hB (fun _ _ _ h => h) (Kr.refl _) ?_
  refine stepsI_ok hT hH hi' hs' hd (fun w3 m3 cn3 a3 hi3 hs3 hd3 => ?_)
  have := h2 [] (fun e s => e = .normal ∧ Q .normal s) (WL_nil ⟨rfl, hq⟩) w3 m3 cn3 a3 hi3 hs3 hd3
  rw [List.append_nil] at this
  refine wpList_mono2 (fun a w ⟨s, m, cn, ⟨_, h⟩, r⟩ => ⟨s, m, cn, h, r⟩) (fun e a w hne ⟨s, m, cn, ⟨h0, _⟩, _⟩ => absurd h0 hne) _ _ _ this

theorem W_iseqK {id : Nat} {y : Code} (n : Nat) (l : List It) (ks : List Nat) (L : List Nat) (hm : P.follows .mixedOrders = true) (hB : itsB .any ls.toArray n l = true) (hT : TOK P T) {n0 : Nat} (hX : X.n0 = n0)
    (hH : StepsI P T n0 ls.toArray L l st s2) (h2 : Runs P X ls.toArray (ls.drop n) s2 s3) (hk : W P X y (s3.keep ks) Q) : W P X (.seq (.region id ls.toArray true) y) st Q :=
  W_seq (W_its hm hB hT hX hH h2 (W_le (Le.keep ks s3) hk))
end
end Go.Ev
/-! A region that draws its order, nothing out of reach: operations that read no object may come at any time from now on; of the others one or two are ready. -/
namespace Go.Ev
open Go

inductive Ti where
  | tail
  | pur (i : Nat) (t : Ti)
  | one (i : Nat) (t : Ti)
  | two (i j : Nat) (t u : Ti)

section
variable {P : Program} {ops : Array Oper} {Q : Exit → Act → World → Prop}

def tiB (md : Region.Mode) (ops : Array Oper) (n : Nat) : Ti → Nat → Array Bool → Bool
  | .pur i t, k, listed => decide (i < n) && decide (0 < k) && (Region.ready md ops listed).contains i && Region.free md ops listed i && tiB md ops n t (k - 1) (listed.setIfInBounds i true)
  | .one i t, k, listed => decide (i < n) && decide (0 < k) && decide (Region.ready md ops listed = [i]) && tiB md ops n t (k - 1) (listed.setIfInBounds i true)
  | .two i j t u, k, listed => decide (i < n) && decide (j < n) && decide (0 < k) && decide (Region.ready md ops listed = [i, j]) && tiB md ops n t (k - 1) (listed.setIfInBounds i true) && tiB md ops n u (k - 1) (listed.setIfInBounds j true)
  | .tail, k, listed => decide (k = 0) && Region.seqB md ops (ops.size - n) n listed
def tisB (md : Region.Mode) (ops : Array Oper) (n : Nat) (t : Ti) : Bool :=
  Region.noSelect ops && decide (n < ops.size) && Region.sinkB md ops n && Region.chainB md ops n && tiB md ops n t n (Array.replicate ops.size false)

def HeadJ (P : Program) (ops : Array Oper) (Q : Exit → Act → World → Prop) (n : Nat) : Ti → (World → Prop) → Act → World → Prop
  | .pur i t, S, a, w => ∃ oi v, ops[i]? = some oi ∧ YieldsIf P ops S oi v a ∧ HeadJ P ops Q n t S (a.put oi.dst v) w
  | .one i t, S, a, w => wpOp P ops Q i (fun a' w' => ∃ S' : World → Prop, (∀ x, S' x → S x) ∧ S' w' ∧ HeadJ P ops Q n t S' a' w') a w
  | .two i j t u, S, a, w => wpOp P ops Q i (fun a' w' => ∃ S' : World → Prop, (∀ x, S' x → S x) ∧ S' w' ∧ HeadJ P ops Q n t S' a' w') a w ∧
      wpOp P ops Q j (fun a' w' => ∃ S' : World → Prop, (∀ x, S' x → S x) ∧ S' w' ∧ HeadJ P ops Q n u S' a' w') a w
  | .tail, _, a, w => wpList P ops Q (ops.toList.drop n) a w

theorem wpAnyT_ti {md : Region.Mode} {n : Nat} (hsel : Region.noSelect ops = true) (hn : n < ops.size) (hs : Region.sinkB md ops n = true) (hc : Region.chainB md ops n = true) (hQ : ∀ c a w, ¬ Q (.panic c) a w) :
    ∀ (t : Ti) (k : Nat) (S : World → Prop) (listed : Array Bool) (a : Act) (w : World), HeadInv md ops n listed → S w → tiB md ops n t k listed = true → HeadJ P ops Q n t S a w →
      wpAnyT P md ops Q S n (k + (ops.size - n)) listed a w
  | .pur i t, k, S, listed, a, w, inv, hS, hB, ⟨oi, v, hi, hy, h⟩ => by
    simp only [tiB, Bool.and_eq_true, decide_eq_true_eq] at hB
    obtain ⟨⟨⟨⟨hin, hk⟩, hr⟩, hf⟩, hB⟩ := hB
    have hr' : i ∈ Region.ready md ops listed := by simpa using hr
    have := wpAnyT_ti hsel hn hs hc hQ t (k - 1) S _ _ _ (inv.set hr' hin) hS hB h
    rw [show k + (ops.size - n) = (k - 1 + (ops.size - n)) + 1 from by omega]
    exact wpAnyT_first hi (Region.noSelect_spec hsel) hs hc hn hin hQ _ listed a w inv (Region.free_spec hi hf) hr' hy hS this
  | .one i t, k, S, listed, a, w, inv, hS, hB, h => by
    simp only [tiB, Bool.and_eq_true, decide_eq_true_eq] at hB
    obtain ⟨⟨⟨hin, hk⟩, hr⟩, hB⟩ := hB
    rw [show k + (ops.size - n) = (k - 1 + (ops.size - n)) + 1 from by omega]
    refine ⟨fun h0 => (by rw [hr] at h0; cases h0), fun j hj => ?_⟩
    have hmem := hj
    rw [hr] at hj
    have hji : j = i := by simpa using hj
    subst hji
    have h : wpOp P ops Q j (fun a' w' => ∃ S' : World → Prop, (∀ x, S' x → S x) ∧ S' w' ∧ HeadJ P ops Q n t S' a' w') a w := h
    exact wpOp_mono (fun a' w' ⟨S', h1, h2, h3⟩ => ⟨fun _ => h1 _ h2, wpAnyT_S h1 _ _ _ _ (wpAnyT_ti hsel hn hs hc hQ t _ S' _ _ _ (inv.set hmem hin) h2 hB h3)⟩) h
  | .two i i2 t u, k, S, listed, a, w, inv, hS, hB, h => by
    simp only [tiB, Bool.and_eq_true, decide_eq_true_eq] at hB
    obtain ⟨⟨⟨⟨⟨hin, hin2⟩, hk⟩, hr⟩, hB⟩, hB2⟩ := hB
    rw [show k + (ops.size - n) = (k - 1 + (ops.size - n)) + 1 from by omega]
    refine ⟨fun h0 => (by rw [hr] at h0; cases h0), fun j hj => ?_⟩
    have hmem := hj
    rw [hr] at hj
    obtain ⟨ha, hb⟩ : wpOp P ops Q i (fun a' w' => ∃ S' : World → Prop, (∀ x, S' x → S x) ∧ S' w' ∧ HeadJ P ops Q n t S' a' w') a w ∧
      wpOp P ops Q i2 (fun a' w' => ∃ S' : World → Prop, (∀ x, S' x → S x) ∧ S' w' ∧ HeadJ P ops Q n u S' a' w') a w := h
    have hji : j = i ∨ j = i2 := by simpa using hj
    rcases hji with rfl | rfl
    · exact wpOp_mono (fun a' w' ⟨S', h1, h2, h3⟩ => ⟨fun _ => h1 _ h2, wpAnyT_S h1 _ _ _ _ (wpAnyT_ti hsel hn hs hc hQ t _ S' _ _ _ (inv.set hmem hin) h2 hB h3)⟩) ha
    · exact wpOp_mono (fun a' w' ⟨S', h1, h2, h3⟩ => ⟨fun _ => h1 _ h2, wpAnyT_S h1 _ _ _ _ (wpAnyT_ti hsel hn hs hc hQ u _ S' _ _ _ (inv.set hmem hin2) h2 hB2 h3)⟩) hb
  | .tail, k, S, listed, a, w, inv, hS, hB, h => by
    simp only [tiB, Bool.and_eq_true, decide_eq_true_eq] at hB
    obtain ⟨rfl, hB⟩ := hB
    have h : wpList P ops Q (ops.toList.drop n) a w := h
    have hlen : (ops.toList.drop n).length = ops.size - n := by simp
    have := wpAnyT_tail (P := P) (Q := Q) (md := md) (S := S) (n := n) (ops.toList.drop n) n listed a w (Nat.le_refl _) (fun j => by simp) (fun h => by omega) inv.size (by rw [hlen]; exact hB) h
    rw [hlen] at this
    simpa using this

theorem wp_region_tis {id : Nat} {S : World → Prop} {n : Nat} {t : Ti} {a : Act} {w : World} (hm : P.follows .mixedOrders = true) (hB : tisB .any ops n t = true) (hQ : ∀ c a w, ¬ Q (.panic c) a w)
    (hS : S { w with drawn := w.drawn + 1 }) (h : HeadJ P ops Q n t S a { w with drawn := w.drawn + 1 }) : (Code.region id ops true).wp P Q a w := by
  simp only [tisB, Bool.and_eq_true, decide_eq_true_eq] at hB
  obtain ⟨⟨⟨⟨hsel, hn⟩, hs⟩, hc⟩, hhead⟩ := hB
  have inv0 : HeadInv .any ops n (Array.replicate ops.size false) :=
    ⟨by simp, fun j oj _ hl => (by rw [getD_replicate_false] at hl; cases hl), fun t _ ht => getD_in (by simpa using ht) (getD_replicate_false _ _)⟩
  have := wpAnyT_ti hsel hn hs hc hQ t n S _ _ _ inv0 hS hhead h
  rw [show n + (ops.size - n) = ops.size from by omega] at this
  exact wp_region_any hm (wpAny_of_T _ _ _ _ this)
end

section
variable {X : Ctx} {w w' : World} {ob ob' : List Ob} {m m' : Mp} {cn cn' : Nat → Cnt}

/-- the same objects, as one step sees them -/
def ctxQ (X : Ctx) (w : World) (m : Mp) (cn : Nat → Cnt) : Ctx := ⟨w, fun b => b < w.heap.size ∧ frz X cn b, fun b => ∃ id, 0 < cn id b, m, X.n0⟩

theorem Inv.live (hi : Inv X w ob m cn) : Inv (ctxQ X w m cn) w ob m cn ∧ ∀ b, b < w.heap.size → frz X cn b → frz (ctxQ X w m cn) cn b := by
  have hfr : ∀ b, b < w.heap.size → frz X cn b → frz (ctxQ X w m cn) cn b := fun b hb h => ⟨.inl ⟨hb, h⟩, h.2⟩
  exact ⟨⟨Nat.le_refl _, fun _ _ _ => rfl, rfl, rfl, rfl, fun i o ho => (hi.obj i o ho).mono hfr, hi.dis, hi.one, fun i b h => ⟨(hi.new i b h).1, .inr ⟨i, h⟩⟩, hi.fresh, fun _ _ => rfl, hi.mlt, hi.n0, fun _ _ => rfl⟩, hfr⟩

theorem Inv.unlive (hi : Inv X w ob m cn) (h' : Inv (ctxQ X w m cn) w' ob' m' cn') :
    Inv X w' ob' m' cn' ∧ (∀ b, frz (ctxQ X w m cn) cn' b → frz X cn' b) ∧ (∀ b, b < w.heap.size → frz X cn b → w'.heap[b]? = w.heap[b]?) ∧ (∀ b, b < w.heap.size → frz X cn b → frz X cn' b) := by
  have hfr : ∀ b, frz (ctxQ X w m cn) cn' b → frz X cn' b := by
    rintro b ⟨h1, h2⟩
    rcases h1 with ⟨_, h1⟩ | hb
    · exact ⟨h1.1, h2⟩
    · exact ⟨.inr (Nat.le_trans hi.le hb), h2⟩
  have hnew' : ∀ id b, 0 < cn' id b → b < w.heap.size → ∃ k, 0 < cn k b := fun id b h hb => by
    rcases (h'.new id b h).2 with h | h
    · have : w.heap.size ≤ b := h
      omega
    · exact h
  have hfrz2 : ∀ b, b < w.heap.size → frz X cn b → frz X cn' b := fun b hb h => ⟨h.1, fun id => by
    rcases Nat.eq_zero_or_pos (cn' id b) with h0 | h0
    · exact h0
    · obtain ⟨k, hk⟩ := hnew' id b h0 hb
      have := h.2 k; omega⟩
  have hheap : ∀ b, b < w.heap.size → frz X cn b → w'.heap[b]? = w.heap[b]? := fun b hb h => by
    refine h'.kept b hb fun ⟨k, hc⟩ => ?_
    have := h.2 k; omega
  refine ⟨⟨Nat.le_trans hi.le h'.le, fun b hb ho => ?_, h'.os.trans hi.os, h'.tape.trans hi.tape, h'.output.trans hi.output, fun i o ho => (h'.obj i o ho).mono (fun b _ h => hfr b h), h'.dis, h'.one, fun i b h => ?_,
    h'.fresh, fun i h => ?_, h'.mlt, h'.n0, fun b hb => ?_⟩, hfr, hheap, hfrz2⟩
  · rw [h'.kept b (Nat.lt_of_lt_of_le hb hi.le) (fun ⟨k, hk⟩ => ?_)]
    · exact hi.kept b hb ho
    · rcases (hi.new k b hk).2 with h | h
      · omega
      · exact ho h
  · obtain ⟨g1, g2⟩ := h'.new i b h
    refine ⟨g1, ?_⟩
    rcases g2 with g2 | ⟨k, hk⟩
    · exact .inl (Nat.le_trans hi.le g2)
    · exact (hi.new k b hk).2
  · rw [h'.pas i h]; exact hi.pas i h
  · rw [h'.shp b (Nat.lt_of_lt_of_le hb hi.le)]; exact hi.shp b hb
end

section
variable {P : Program} {X : Ctx} {st s1 s2 s3 : St} {Q : Exit → St → Prop} {T : Nat → Option TI} {ls : List Oper}

inductive StepsL (P : Program) (T : Nat → Option TI) (n0 : Nat) (ops : Array Oper) : Ti → St → St → Prop
  | tail {s : St} : StepsL P T n0 ops .tail s s
  | pur {i : Nat} {t : Ti} {s s1 s2 : St} (h : runTk T n0 ops [] [i] s = some s1) (k : StepsL P T n0 ops t s1 s2) : StepsL P T n0 ops (.pur i t) s s2
  | one {i : Nat} {o : Oper} {t : Ti} {s s1 s2 : St} (ho : ops[i]? = some o) (h : ∀ X' : Ctx, X'.n0 = n0 → Runs P X' ops [o] s s1) (k : StepsL P T n0 ops t s1 s2) : StepsL P T n0 ops (.one i t) s s2
  | two {i j : Nat} {t u : Ti} {s s2 : St} (h1 : StepsL P T n0 ops (.one i t) s s2) (h2 : StepsL P T n0 ops (.one j u) s s2) : StepsL P T n0 ops (.two i j t u) s s2

theorem stepsL_ok (hT : TOK P T) {n n0 : Nat} (hX : X.n0 = n0) {ops : Array Oper} {Qf : Exit → Act → World → Prop} {l : Ti} (h : StepsL P T n0 ops l st s1) :
    ∀ {w : World} {m : Mp} {cn : Nat → Cnt} {a : Act}, Inv X w st.ob m cn → Sl X w m cn st.tm a → a.defers = [] →
      (∀ w m cn a, Inv X w s1.ob m cn → Sl X w m cn s1.tm a → a.defers = [] → wpList P ops Qf (ops.toList.drop n) a w) → HeadJ P ops Qf n l (Kr X cn [] w) a w := by
  induction h with
  | tail => intro w m cn a hi hs hd hk; exact hk w m cn a hi hs hd
  | two h1 h2 ih1 ih2 => intro w m cn a hi hs hd hk; exact ⟨ih1 hi hs hd hk, ih2 hi hs hd hk⟩
  | @pur i t s s1 s2 h k ih =>
    intro w m cn a hi hs hd hk
    have hob := runTk_ob h
    simp only [runTk] at h
    split at h
    · cases h
    · rename_i o ho
      split at h
      · rename_i hg
        split at h
        · rename_i hp
          split at h
          · rename_i x st' hx
            obtain ⟨u, hu, hR⟩ := (opB_okp (X := X) (L := []) hT hx hp.1 hp.2).1 w m cn a hi hs
            cases h
            refine ⟨o, u, ho, .inl ⟨gd_ok hs hg, hu⟩, ih hi ?_ (put_defers _ _ hd) hk⟩
            have := hs.set o.dst hR
            cases hod : o.dst <;> simpa [setD, hod] using this
          · cases h
        · cases h
      · rename_i hg
        cases h
        refine ⟨o, undef, ho, .inr ⟨gd_ok hs hg, rfl⟩, ih hi ?_ (put_defers _ _ hd) hk⟩
        have := hs.set o.dst (x := .tup []) (u := undef) (.tup .lnil)
        cases hod : o.dst <;> simpa [setD, hod] using this
      · cases h
  | @one i o t s s1 s2 ho h k ih =>
    intro w m cn a hi hs hd hk
    obtain ⟨h1, h2⟩ := hi.live
    have hs' : Sl (ctxQ X w m cn) w m cn s.tm a := hs.mono (Nat.le_refl _) (fun b hb hf => ⟨h2 b hb hf, rfl⟩) (fun _ _ => rfl) trivial (fun _ _ h => ⟨h, rfl⟩)
    have hr := h (ctxQ X w m cn) hX [] (fun e st => e = .normal ∧ st = s1) (WL_nil ⟨rfl, rfl⟩) w m cn a h1 hs' hd
    have step : wpList P ops (post (ctxQ X w m cn) (fun e st => e = .normal ∧ st = s1)) [o] a w := hr
    have fin : ∀ a' w', post (ctxQ X w m cn) (fun e st => e = .normal ∧ st = s1) .normal a' w' → ∃ S' : World → Prop, (∀ x, S' x → Kr X cn [] w x) ∧ S' w' ∧ HeadJ P ops Qf n t S' a' w' := by
      rintro a' w' ⟨st2, m', cn', ⟨_, rfl⟩, hi', hs2, hd'⟩
      obtain ⟨u1, u2, u3, u4⟩ := hi.unlive hi'
      refine ⟨Kr X cn' [] w', fun x hx => ⟨Nat.le_trans hi'.le hx.1, fun b hb hc => ?_⟩, Kr.refl _,
        ih u1 (hs2.mono (Nat.le_refl _) (fun b _ hf => ⟨u2 b hf, rfl⟩) (fun _ _ => rfl) trivial (fun _ _ h => ⟨h, rfl⟩)) hd' hk⟩
      rcases hc with hc | ⟨_, hid, _⟩
      · rw [hx.2 b (Nat.lt_of_lt_of_le hb hi'.le) (.inl (u4 b hb hc)), u3 b hb hc]
      · cases hid
    show wpOp P ops Qf i _ a w
    unfold wpOp
    simp only [ho]
    unfold wpList at step
    split
    · rename_i hw
      rw [if_pos hw] at step
      rcases step with step | ⟨_, a', w', st2, m', cn', ⟨h0, _⟩, _⟩
      · exact .inl (wp_mono2 (fun a' w' h => fin a' w' h) (fun e a' w' hne ⟨st2, m', cn', ⟨h0, _⟩, _⟩ => absurd h0 hne) step)
      · cases h0
    · rename_i hw
      rw [if_neg hw] at step
      exact fin _ _ step

theorem W_tis {id n : Nat} {t : Ti} (hm : P.follows .mixedOrders = true) (hB : tisB .any ls.toArray n t = true) (hT : TOK P T) {n0 : Nat} (hX : X.n0 = n0)
    (hH : StepsL P T n0 ls.toArray t st s2) (h2 : Runs P X ls.toArray (ls.drop n) s2 s3) (hq : Q .normal s3) : W P X (.region id ls.toArray true) st Q := by
  intro w m cn a hi hs hd
  have hi' : Inv X { w with drawn := w.drawn + 1 } st.ob m cn := hi.drew
  have hs' : Sl X { w with drawn := w.drawn + 1 } m cn st.tm a := Ext.drew.Sl hs
  refine Code.wp_mono (Q := normQ (post X Q)) (fun e a' w' h => ?_) ?_
  · cases e <;> first | exact h | exact h.elim
  refine wp_region_tis (S := Kr X cn [] { w with drawn := w.drawn + 1 }) hm hB (fun _ _ _ h => h) (Kr.refl _) ?_
  refine stepsL_ok hT hX hH hi' hs' hd (fun w3 m3 cn3 a3 hi3 hs3 hd3 => ?_)
  have := h2 [] (fun e s => e = .normal ∧ Q .normal s) (WL_nil ⟨rfl, hq⟩) w3 m3 cn3 a3 hi3 hs3 hd3
  rw [List.append_nil] at this
  refine wpList_mono2 (fun a w ⟨s, m, cn, ⟨_, h⟩, r⟩ => ⟨s, m, cn, h, r⟩) (fun e a w hne ⟨s, m, cn, ⟨h0, _⟩, _⟩ => absurd h0 hne) _ _ _ this

theorem W_tiseqK {id : Nat} {y : Code} (n : Nat) (t : Ti) (ks : List Nat) (hm : P.follows .mixedOrders = true) (hB : tisB .any ls.toArray n t = true) (hT : TOK P T) {n0 : Nat} (hX : X.n0 = n0)
    (hH : StepsL P T n0 ls.toArray t st s2) (h2 : Runs P X ls.toArray (ls.drop n) s2 s3) (hk : W P X y (s3.keep ks) Q) : W P X (.seq (.region id ls.toArray true) y) st Q :=
  W_seq (W_tis hm hB hT hX hH h2 (W_le (Le.keep ks s3) hk))
end
end Go.Ev
/-! Two objects change their places. -/
namespace Go.Ev
open Go
def swp (a b id : Nat) : Nat := if id = a then b else if id = b then a else id
theorem swp_swp (a b id : Nat) : swp a b (swp a b id) = id := by
  unfold swp
  by_cases h1 : id = a
  · subst h1; rw [if_pos rfl]; by_cases h2 : b = id
    · rw [if_pos h2, h2]
    · rw [if_neg h2, if_pos rfl]
  · rw [if_neg h1]; by_cases h2 : id = b
    · subst h2; rw [if_pos rfl, if_pos rfl]
    · rw [if_neg h2, if_neg h1, if_neg h2]
def gSw (a b : Nat) (id : Nat) : Option Nat := some (swp a b id)
def St.swap (a b : Nat) (s : St) : St :=
  ⟨mapL (gSw a b) s.tm, ((s.ob.map (mapO (gSw a b))).set a (mapO (gSw a b) (s.ob.getD b none))).set b (mapO (gSw a b) (s.ob.getD a none))⟩
theorem swap_at {a b : Nat} {ob : List Ob} (ha : a < ob.length) (hb : b < ob.length) (g : Ob → Ob) (i : Nat) : (((ob.map g).set a (g (ob.getD b none))).set b (g (ob.getD a none)))[i]? = ob[swp a b i]?.map g := by
  unfold swp
  by_cases h1 : i = a
  · subst h1
    rw [if_pos rfl]
    by_cases h2 : b = i
    · subst h2; rw [List.getElem?_set_self (by simpa using hb)]; simp [hb]
    · rw [List.getElem?_set_ne h2, List.getElem?_set_self (by simpa using ha)]; simp [hb]
  · rw [if_neg h1]
    by_cases h2 : i = b
    · subst h2
      rw [if_pos rfl, List.getElem?_set_self (by simpa using hb)]; simp [ha]
    · rw [if_neg h2, List.getElem?_set_ne (Ne.symm h2), List.getElem?_set_ne (Ne.symm h1), List.getElem?_map]
theorem swap_inv {X : Ctx} (a b : Nat) {s : St} (h : X.n0 ≤ a ∧ X.n0 ≤ b ∧ a < s.ob.length ∧ b < s.ob.length) {w : World} {m : Mp} {cn : Nat → Cnt} {act : Act} (hi : Inv X w s.ob m cn) (hs : Sl X w m cn s.tm act) :
    frz X (fun id => cn (swp a b id)) = frz X cn ∧ Inv X w (s.swap a b).ob (fun id => m (swp a b id)) (fun id => cn (swp a b id)) ∧ Sl X w (fun id => m (swp a b id)) (fun id => cn (swp a b id)) (s.swap a b).tm act := by
  obtain ⟨h1, h2, h3, h4⟩ := h
  have hlo : ∀ id, id < X.n0 → swp a b id = id := fun id hid => by unfold swp; rw [if_neg (by omega), if_neg (by omega)]
  have hhi : ∀ id, s.ob.length ≤ id → swp a b id = id := fun id hid => by unfold swp; rw [if_neg (by omega), if_neg (by omega)]
  have hfr : frz X (fun id => cn (swp a b id)) = frz X cn := by
    funext x
    refine propext ⟨fun ⟨p, q⟩ => ⟨p, fun id => ?_⟩, fun ⟨p, q⟩ => ⟨p, fun id => q _⟩⟩
    have := q (swp a b id)
    simpa only [swp_swp] using this
  have hm : ∀ id q, gSw a b id = some q → (fun id => m (swp a b id)) q = m id := fun id q e => by
    simp only [gSw, Option.some.injEq] at e
    subst e
    show m (swp a b (swp a b id)) = m id
    rw [swp_swp]
  have hobl : (s.swap a b).ob.length = s.ob.length := by simp [St.swap]
  refine ⟨hfr, ⟨hi.le, hi.kept, hi.os, hi.tape, hi.output, fun id o ho => ?_, fun x i j p q => ?_, fun i x => hi.one _ x, fun i x p => hi.new _ x p, fun id hid => ?_, fun id hid => ?_, fun id x p => hi.mlt _ x p, by rw [hobl]; exact hi.n0, hi.shp⟩, ?_⟩
  · rw [hfr]
    rw [show (s.swap a b).ob[id]? = s.ob[swp a b id]?.map (mapO (gSw a b)) from swap_at h3 h4 _ id] at ho
    cases ho0 : s.ob[swp a b id]? with
    | none => rw [ho0] at ho; cases ho
    | some o0 =>
      rw [ho0] at ho
      cases ho
      have hk := hi.obj _ _ ho0
      cases o0 with
      | none => trivial
      | some kx =>
        obtain ⟨k, xs⟩ := kx
        simp only [mapO]
        rcases hk with ⟨e, p, q⟩ | ⟨bl, cur, e, c, p1, p2, p3, p4, p5, p6⟩
        · subst e; exact .inl ⟨rfl, p, q⟩
        · refine .inr ⟨bl, cur, e, c, p1, p2, uni_mapL p3 _, by rw [mapL_map, List.length_map]; exact p4, ?_, p6⟩
          have := p5.mapId hm
          rw [mapL_flat]; exact this
  · have := hi.dis x _ _ p q
    have := congrArg (swp a b) this
    simpa only [swp_swp] using this
  · rw [hobl] at hid
    show m (swp a b id) = none
    rw [hhi id hid]; exact hi.fresh id hid
  · show m (swp a b id) = _
    rw [hlo id hid]; exact hi.pas id hid
  · show R w (frz X fun id => cn (swp a b id)) _ _ _
    rw [hfr]
    exact R.mapId hm hs
theorem Le.swap {X : Ctx} (a b : Nat) {s : St} (h : X.n0 ≤ a ∧ X.n0 ≤ b ∧ a < s.ob.length ∧ b < s.ob.length) : Le X s (s.swap a b) := fun _ _ _ _ hi hs =>
  let ⟨_, h2, h3⟩ := swap_inv a b h hi hs
  ⟨_, _, h2, h3⟩
theorem Runs.leR {P : Program} {X : Ctx} {ops : Array Oper} {l : List Oper} {st s1 s2 : St} (hk : Runs P X ops l st s1) (h : Le X s1 s2) : Runs P X ops l st s2 := fun rest Q hq => hk rest Q (WL_le h hq)
section
variable {P : Program} {X : Ctx} {st s1 s2 s3 : St} {Q : Exit → St → Prop} {T : Nat → Option TI} {ls : List Oper} {L : List Nat}
inductive StepsW (P : Program) (ops : Array Oper) (n0 : Nat) (L : List Nat) : Tr → St → St → Prop
  | sw {a b : Nat} {t : Tr} {s s' s2 : St} (hb : n0 ≤ a ∧ n0 ≤ b ∧ a < s.ob.length ∧ b < s.ob.length) (hl : a ∉ L ∧ b ∉ L) (he : s.swap a b = s') (k : StepsW P ops n0 L t s' s2) : StepsW P ops n0 L t s s2
  | tail {s : St} : StepsW P ops n0 L .tail s s
  | one {i : Nat} {o : Oper} {t : Tr} {s s' s1 s2 : St} (ho : ops[i]? = some o) (hL : ∀ id ∈ L, id < s.ob.length)
      (h : ∀ X' : Ctx, X'.n0 = s.ob.length → Runs P X' ops [o] ⟨s.tm, hid L s.ob⟩ s') (he : (⟨s'.tm, unh s.ob L s'.ob⟩ : St) = s1) (ht : StepsW P ops n0 L t s1 s2) : StepsW P ops n0 L (.one i t) s s2
  | two {i j : Nat} {t u : Tr} {s s2 : St} (h1 : StepsW P ops n0 L (.one i t) s s2) (h2 : StepsW P ops n0 L (.one j u) s s2) : StepsW P ops n0 L (.two i j t u) s s2

theorem stepsW_ok {n0 : Nat} (hX : X.n0 = n0) {n : Nat} {ops : Array Oper} {Qf : Exit → Act → World → Prop} {w0 : World} {cn0 : Nat → Cnt} {t : Tr} (h : StepsW P ops n0 L t st s1) :
    ∀ {w : World} {m : Mp} {cn : Nat → Cnt} {a : Act}, Inv X w st.ob m cn → Sl X w m cn st.tm a → a.defers = [] → Kr X cn0 L w0 w → (∀ b, b < w0.heap.size → frz X cn0 b → frz X cn b) → (∀ id ∈ L, cn id = cn0 id) →
      (∀ w m cn a, Inv X w s1.ob m cn → Sl X w m cn s1.tm a → a.defers = [] → wpList P ops Qf (ops.toList.drop n) a w) → HeadT P ops Qf (Kr X cn0 L w0) n t a w := by
  induction h with
  | tail => intro w m cn a hi hs hd _ _ _ hk; exact hk w m cn a hi hs hd
  | @sw a b t s s' s2 hb hl he k ih =>
    intro w m cn act hi hs hd hK hF hC hk
    subst he
    obtain ⟨g1, g2, g3⟩ := swap_inv a b (by rw [hX]; exact hb) hi hs
    refine ih g2 g3 hd hK (fun b hb h => by rw [g1]; exact hF b hb h) (fun id hid => ?_) hk
    have e1 : id ≠ a := fun e => hl.1 (by rw [← e]; exact hid)
    have e2 : id ≠ b := fun e => hl.2 (by rw [← e]; exact hid)
    show cn (swp a b id) = _
    rw [show swp a b id = id from by unfold swp; rw [if_neg e1, if_neg e2]]
    exact hC id hid
  | two h1 h2 ih1 ih2 => intro w m cn a hi hs hd hK hF hC hk; exact ⟨ih1 hi hs hd hK hF hC hk, ih2 hi hs hd hK hF hC hk⟩
  | @one i o t s s' s1 s2 ho hL h he ht ih =>
    intro w m cn a hi hs hd hK hF hC hk
    subst he
    obtain ⟨h1, h2⟩ := hi.hide L
    have hs' : Sl (ctxH X w m cn L s.ob.length) w m (cnH L cn) s.tm a := hs.mono (Nat.le_refl _) (fun b hb hf => ⟨h2 b hb hf, rfl⟩) (fun _ _ => rfl) trivial (fun _ _ h => ⟨h, rfl⟩)
    have hr := h (ctxH X w m cn L s.ob.length) rfl [] (fun e st => e = .normal ∧ st = s') (WL_nil ⟨rfl, rfl⟩) w m (cnH L cn) a h1 hs' hd
    have step : wpList P ops (post (ctxH X w m cn L s.ob.length) (fun e st => e = .normal ∧ st = s')) [o] a w := hr
    have fin : ∀ a' w', post (ctxH X w m cn L s.ob.length) (fun e st => e = .normal ∧ st = s') .normal a' w' → Kr X cn0 L w0 w' ∧ HeadT P ops Qf (Kr X cn0 L w0) n t a' w' := by
      rintro a' w' ⟨st2, m', cn', ⟨_, rfl⟩, hi', hs2, hd'⟩
      obtain ⟨u1, u2, u3, u4⟩ := hi.unhide hL hi'
      have hK' : Kr X cn0 L w0 w' := ⟨Nat.le_trans hK.1 hi'.le, fun b hb hc => by
        rw [u3 b (Nat.lt_of_lt_of_le hb hK.1) (hc.imp (hF b hb) (fun ⟨id, hid, hc⟩ => ⟨id, hid, by rw [hC id hid]; exact hc⟩))]
        exact hK.2 b hb hc⟩
      refine ⟨hK', ih u1 (hs2.mono (Nat.le_refl _) (fun b _ hf => ⟨u2 b hf, rfl⟩) (fun _ _ => rfl) trivial (fun _ _ h => ⟨h, rfl⟩)) hd' hK' (fun b hb hf => u4 b (Nat.lt_of_lt_of_le hb hK.1) (hF b hb hf)) (fun id hid => ?_) hk⟩
      unfold cnU
      rw [if_pos hid]
      exact hC id hid
    show wpOp P ops Qf i _ a w
    unfold wpOp
    simp only [ho]
    unfold wpList at step
    split
    · rename_i hw
      rw [if_pos hw] at step
      rcases step with step | ⟨_, a', w', st2, m', cn', ⟨h0, _⟩, _⟩
      · exact .inl (wp_mono2 (fun a' w' h => fin a' w' h) (fun e a' w' hne ⟨st2, m', cn', ⟨h0, _⟩, _⟩ => absurd h0 hne) step)
      · cases h0
    · rename_i hw
      rw [if_neg hw] at step
      exact fin _ _ step

theorem W_treeS {id n : Nat} {A : List Nat} {t : Tr} (hm : P.follows .mixedOrders = true) (hB : treeB .any ls.toArray n A t = true) (hT : TOK P T) {n0 : Nat} (hX : X.n0 = n0) (hA : runTk T n0 ls.toArray L A st = some s1)
    (hH : StepsW P ls.toArray n0 L t s1 s2) (h2 : Runs P X ls.toArray (ls.drop n) s2 s3) (hq : Q .normal s3) : W P X (.region id ls.toArray true) st Q := by
  intro w m cn a hi hs hd
  have hi' : Inv X { w with drawn := w.drawn + 1 } st.ob m cn := hi.drew
  have hs' : Sl X { w with drawn := w.drawn + 1 } m cn st.tm a := Ext.drew.Sl hs
  have hob := runTk_ob hA
  refine Code.wp_mono (Q := normQ (post X Q)) (fun e a' w' h => ?_) ?_
  · cases e <;> first | exact h | exact h.elim
  refine wp_region_tree (S := Kr X cn L { w with drawn := w.drawn + 1 }) hm hB (fun _ _ _ h => h) (Kr.refl _) (runTk_okK hT hA hi' hs' hd fun a' hs2 hd2 => ?_)
  refine stepsW_ok hX hH (hob ▸ hi') hs2 hd2 (Kr.refl _) (fun _ _ h => h) (fun _ _ => rfl) (fun w3 m3 cn3 a3 hi3 hs3 hd3 => ?_)
  have := h2 [] (fun e s => e = .normal ∧ Q .normal s) (WL_nil ⟨rfl, hq⟩) w3 m3 cn3 a3 hi3 hs3 hd3
  rw [List.append_nil] at this
  refine wpList_mono2 (fun a w ⟨s, m, cn, ⟨_, h⟩, r⟩ => ⟨s, m, cn, h, r⟩) (fun e a w hne ⟨s, m, cn, ⟨h0, _⟩, _⟩ => absurd h0 hne) _ _ _ this

theorem W_tseqS {id : Nat} {y : Code} (n : Nat) (A : List Nat) (t : Tr) (ks : List Nat) (L : List Nat) (hm : P.follows .mixedOrders = true) (hB : treeB .any ls.toArray n A t = true) (hT : TOK P T) {n0 : Nat} (hX : X.n0 = n0) (hA : runTk T n0 ls.toArray L A st = some s1)
    (hH : StepsW P ls.toArray n0 L t s1 s2) (h2 : Runs P X ls.toArray (ls.drop n) s2 s3) (hk : W P X y (s3.keep ks) Q) : W P X (.seq (.region id ls.toArray true) y) st Q :=
  W_seq (W_treeS hm hB hT hX hA hH h2 (W_le (Le.keep ks s3) hk))
end
end Go.Ev
/-! A list that begins with nothing: s[:0:0], and what is appended to it. -/
namespace Go.Ev
open Go
section
variable {P : Program} {X : Ctx} {L : List Nat} {st s2 : St} {o : Oper} {T : Nat → Option TI} {ops : Array Oper} {rest : List Oper}

theorem ok_sliceZ (hT : TOK P T) {t e : Nat} {x : Operand} {lo hi mx : Option Operand} {ti ei : TI} (ho : o.op = .slice t x lo hi mx) (ht : T t = some ti) (hk : ti.kd = .slice e) (he : T e = some ei)
    {xs : List V} (hx : val st x = .lst false ei.size xs) {l : Option Nat} (hl : bnd st lo = some l) (hh : bnd st hi = some (some 0)) (hq : bnd st mx = some (some 0)) (h0 : l.getD 0 = 0) : OKp P X L st o (.lst true ei.size []) := by
  intro w m cn a hi' hs
  have hR := val_ok hs x
  rw [hx] at hR
  have fin : ∀ ad : Option Addr, R w (frz X cn) m (.one (.lst true ei.size []) (.slice ad 0 0)) z0 := fun ad => by cases ad <;> first | exact R.nil | exact R.nilz
  rcases R.inv_lst hR with ⟨rfl, ad, hu⟩ | ⟨b, off, cap, hu, hcap, hb, hfr, huni, hc⟩
  · have hb := run_bounds (P := P) true 0 0 l (some 0) (some 0) _ _ _ (bnd_ok hs hl) (bnd_ok hs hh) (bnd_ok hs hq) (by simp) (by simp) (by simp [h0]) (by simp)
    have hr := fun w => run_sliceL hT ht hk he ad 0 0 _ _ _ _ _ _ w (hb w)
    refine ⟨.slice ad 0 0, fun w _ => ?_, fin ad⟩
    simp only [execOp, ho, hu, hr, Sem.run_bind, Result.andThen_ok, Sem.run_pure]
    simp [h0]
  · have hb := run_bounds (P := P) true xs.length cap l (some 0) (some 0) _ _ _ (bnd_ok hs hl) (bnd_ok hs hh) (bnd_ok hs hq) (by simp) (by simp) (by simp [h0]) (by simp)
    have hr := fun w => run_sliceL hT ht hk he (some ⟨b, off, none⟩) xs.length cap _ _ _ _ _ _ w (hb w)
    refine ⟨.slice (some ⟨b, off, none⟩) 0 0, fun w _ => ?_, fin _⟩
    simp only [execOp, ho, hu, hr, Sem.run_bind, Result.andThen_ok, Sem.run_pure]
    simp [h0]

/-- append to an own list that holds nothing -/
theorem ok_appendZ (hT : TOK P T) {t e : Nat} {s x : Operand} {ti ei : TI} (ho : o.op = .call { callee := .builtin .append, args := #[s, x], argTypes := #[t, t] }) (ht : T t = some ti) (hk : ti.kd = .slice e) (he : T e = some ei)
    (hz0 : ei.zero.cells.length = ei.size) {k : Nat} (hs0 : val st s = .lst true k []) {ys : List V} (hy : srcA st.ob (val st x) = some (ei.size, ys))
    (hbig : ys.length * ei.bytes ≤ 140737488355328) (h63 : ys.length ≤ 1099511627776) :
    OKo P X st o (.arr st.ob.length 0 ys.length) ⟨jkL (· == st.ob.length) st.tm, (st.ob ++ [some (ei.size, [])]).map (jkO (· == st.ob.length)) |>.set st.ob.length (some (ei.size, jkL (· == st.ob.length) ys))⟩ := by
  intro w m cn a hi hs
  obtain ⟨h1, h2⟩ := hi.nameNil ei.size
  have hv : ∀ y, val (⟨st.tm, st.ob ++ [some (ei.size, [])]⟩ : St) y = val st y := fun y => by cases y <;> rfl
  have := ok_appendA (P := P) (X := X) (st := ⟨st.tm, st.ob ++ [some (ei.size, [])]⟩) hT ho ht hk he hz0 (id := st.ob.length) (n := 0) (xs := [])
    (fun w m cn a hi hs => by
      have := val_ok hs s
      rw [hv, hs0] at this
      generalize a.eval s = u at this ⊢
      generalize hzz : z0 = c0 at this
      cases this with
      | nil => exact .arrn
      | nilz => exact .arrn
      | own hb hs hk hn h hc =>
        rename_i b _ _ _ _
        subst hzz
        have := hc b
        simp [z0] at this) hi.n0 (by simp) (Nat.le_refl _) (ys := ys) (by rw [hv]; exact nil_source hy) (by simpa using hbig) (by simpa using h63)
  simp only [Nat.zero_add, List.take_nil, List.nil_append] at this
  exact this w m _ a h1 (h2.Sl hs)

theorem Runs.oko {x : V} {st' : St} (h : OKo P X st o x st') (hg : gd ops st o.guard = some true) (k : Runs P X ops rest ⟨setD o.dst x st'.tm, st'.ob⟩ s2) : Runs P X ops (o :: rest) st s2 :=
  fun r Q hq => WL_op h hg (k r Q hq)
end
end Go.Ev
/-! Operations of which a state is told by a property: there are several that may come. -/
namespace Go.Ev
open Go
section
variable {P : Program} {X : Ctx} {st s1 s2 : St} {o : Oper} {T : Nat → Option TI} {ops : Array Oper} {rest l : List Oper} {Q : Exit → St → Prop}

def RunsE (P : Program) (X : Ctx) (ops : Array Oper) (l : List Oper) (st : St) (S : St → Prop) : Prop :=
  ∀ (rest : List Oper) (Q : Exit → St → Prop), (∀ s, S s → WL P X ops rest s Q) → WL P X ops (l ++ rest) st Q

theorem RunsE.of {S : St → Prop} (h : Runs P X ops l st s1) (hS : S s1) : RunsE P X ops l st S := fun rest Q hk => h rest Q (hk _ hS)
theorem RunsE.step {S : St → Prop} (k : Nat) (hT : TOK P T) {n0 : Nat} (hX : X.n0 = n0) (h1 : runB T n0 ops (l.take k) st = some s1) (h2 : RunsE P X ops (l.drop k) s1 S) : RunsE P X ops l st S := fun rest Q hk => by
  have := Runs.run (P := P) hT hX h1 (l.drop k ++ rest) Q (h2 rest Q hk)
  rwa [← List.append_assoc, List.take_append_drop] at this
theorem RunsE.mono {S S' : St → Prop} (hS : ∀ s, S s → S' s) (h : RunsE P X ops l st S) : RunsE P X ops l st S' := fun rest Q hk => h rest Q fun s hs => hk s (hS s hs)

/-- one operation, at one world -/
theorem wpList_op1 {x : V} {st' : St} {w : World} {m : Mp} {cn : Nat → Cnt} {a : Act} (hs : Sl X w m cn st.tm a) (hd : a.defers = [])
    (h : ∃ nx u w' m' cn', (execOp a.eval o).run P w = .ok nx w' ∧ (nx = .value u ∨ nx = .skip ∧ u = undef) ∧ Inv X w' st'.ob m' cn' ∧ Sl X w' m' cn' st'.tm a ∧ R w' (frz X cn') m' (.one x u) z0)
    (hg : gd ops st o.guard = some true) (hk : WL P X ops rest ⟨setD o.dst x st'.tm, st'.ob⟩ Q) : wpList P ops (post X Q) (o :: rest) a w := by
  obtain ⟨nx, u, w', m', cn', hrun, hnx, hi', hs', hR⟩ := h
  refine wpList_step fun K hK => ?_
  rw [gd_ok hs hg, if_pos rfl]
  have hs2 : Sl X w' m' cn' (setD o.dst x st'.tm) (a.put o.dst u) := by
    have := hs'.set o.dst hR
    cases ho : o.dst <;> simpa [setD, ho] using this
  have hd2 : (a.put o.dst u).defers = [] := by cases ho : o.dst <;> simpa [Act.put] using hd
  unfold Oper.wp
  rw [hrun]
  rcases hnx with rfl | ⟨rfl, rfl⟩
  · exact hK _ _ (hk w' m' cn' _ hi' hs2 hd2)
  · exact hK _ _ (hk w' m' cn' _ hi' hs2 hd2)

/-- a list compared with nil -/
theorem RunsE.eqNil (hT : TOK P T) {t e : Nat} {x : Operand} {t' : TypeId} {ti : TI} (ho : o.op = .binOp .eql t x (.const (.slice none 0 0)) t') (ht : T t = some ti) (hk : ti.kd = .slice e)
    {k : Nat} {xs : List V} (hx : val st x = .lst false k xs) (hg : gd ops st o.guard = some true) :
    RunsE P X ops [o] st fun s => ∃ b : Bool, (xs ≠ [] → b = false) ∧ s = ⟨setD o.dst (.bool b) st.tm, st.ob⟩ := by
  intro rest Q hq w m cn a hi hs hd
  have hR := val_ok hs x
  rw [hx] at hR
  obtain ⟨i, d, z, _, hu, _, hd', _⟩ := TI.of hT ht
  rw [hk] at hd'
  have := kd_slice hd'
  subst this
  have key : ∀ ad n c, a.eval x = .slice ad n c → (xs ≠ [] → ad.isNone = false) → wpList P ops (post X Q) (o :: rest) a w := fun ad n c he hb => by
    refine wpList_op1 (x := .bool ad.isNone) (st' := st) hs hd ⟨_, .bool ad.isNone, w, m, cn, ?_, .inl rfl, hi, hs, .bool _⟩ hg (hq _ ⟨ad.isNone, hb, rfl⟩)
    have hc : a.eval (.const (.slice none 0 0)) = .slice none 0 0 := rfl
    have h1 := Lib.run_eql_slice_nil (P := P) w t e ad n c 0 0 hu
    have h2 : (eqGuard .eql t x (.const (.slice none 0 0)) (.slice ad n c) (.slice none 0 0)).run P w = .ok () w := rfl
    simp only [execOp, ho, he, hc, Sem.run_bind, h2, Result.andThen_ok, h1, Sem.run_pure]
  rcases R.inv_lst hR with ⟨rfl, ad, he⟩ | ⟨b, off, cap, he, _⟩
  · exact key _ _ _ he (fun h => absurd rfl h)
  · exact key _ _ _ he (fun _ => rfl)

theorem W_rseqE {id : Nat} {y : Code} {S : St → Prop} (ks : List Nat) (h : RunsE P X ops ops.toList st S) (hk : ∀ s, S s → W P X y (s.keep ks) Q) : W P X (.seq (.region id ops false) y) st Q := by
  refine W_seq (W_region ?_)
  have := h [] (thenQ (fun s => W P X y s Q) Q) (fun s hs => WL_nil (W_le (Le.keep ks s) (hk s hs)))
  rwa [List.append_nil] at this
end
end Go.Ev
/-! Arguments seen through, three references deep: what lies in the elements of a live list is seen too. -/
namespace Go.Ev
open Go

mutual
def V.borT (ob : List Ob) (g : List V → List V) : V → V
  | .arr id o n => if o + n ≤ (seen ob id).length then .lst false (seenK ob id) (g (((seen ob id).drop o).take n)) else .junk
  | .ptr id i j => if i < (seen ob id).length ∧ j ≤ ((seen ob id).getD i .junk).cells.length then .fp (g (((seen ob id).getD i .junk).cells.drop j)) else .junk
  | .lst true k xs => .lst false k (fzL xs)
  | .bx _ x => .fp x.fz.cells
  | .agg xs => .agg (borTL ob g xs)
  | .tup xs => .tup (borTL ob g xs)
  | .clo f xs ys => .clo f (borTL ob g xs) (borTL ob g ys)
  | .ifc t x => .ifc t (x.borT ob g)
  | x => x
def borTL (ob : List Ob) (g : List V → List V) : List V → List V
  | [] => []
  | x :: xs => x.borT ob g :: borTL ob g xs
end
/-- three deep -/
abbrev bor3L (ob : List Ob) : List V → List V := borTL ob (borTL ob (borTL ob fzL))
theorem borTL_map (ob : List Ob) (g : List V → List V) (xs : List V) : borTL ob g xs = xs.map (V.borT ob g) := by
  induction xs with
  | nil => rfl
  | cons x xs ih => simp [borTL, ih]
theorem borTL_append (ob : List Ob) (g : List V → List V) (xs ys : List V) : borTL ob g (xs ++ ys) = borTL ob g xs ++ borTL ob g ys := by simp [borTL_map]
theorem cells_ite {c : Prop} [Decidable c] {x y : V} (hx : x.cells = [x]) (hy : y.cells = [y]) : (if c then x else y).cells = [if c then x else y] := by
  split <;> assumption
theorem borT_cells (ob : List Ob) (g : List V → List V) (x : V) : (x.borT ob g).cells = borTL ob g x.cells := by
  cases x with
  | lst o k xs => cases o <;> rfl
  | arr id o n => exact cells_ite rfl rfl
  | ptr id i j => exact cells_ite rfl rfl
  | _ => rfl
/-- a way to see through that goes cell by cell -/
structure Thru (g : List V → List V) : Prop where
  nil : g [] = []
  len : ∀ xs, (g xs).length = xs.length
  fl : ∀ xs, flat (g xs) = g (flat xs)
  un : ∀ k xs, uni k xs → uni k (g xs)
theorem Thru.fz : Thru fzL := ⟨rfl, fzL_length, fzL_flat, fun _ _ h => uni_fzL h⟩
theorem Thru.bor (ob : List Ob) (g : List V → List V) : Thru (borTL ob g) := by
  refine ⟨rfl, fun xs => by simp [borTL_map], fun xs => ?_, fun k xs h x hx => ?_⟩
  · induction xs with
    | nil => rfl
    | cons x xs ih => rw [borTL, flat_cons, flat_cons, ih, borTL_append, borT_cells]
  · rw [borTL_map] at hx
    obtain ⟨y, hy, rfl⟩ := List.mem_map.1 hx
    rw [borT_cells, borTL_map, List.length_map]; exact h y hy

section
variable {w : World} {fr fr' : Nat → Prop} {m : Mp} {X : Ctx} {ob : List Ob} {cn : Nat → Cnt} {g : List V → List V}

theorem borT1R (hT : Thru g) (hi : Inv X w ob m cn) (hf : ∀ b, b < w.heap.size → fr' b) (hg : ∀ b off xs c, R w (frz X cn) m (.cells b off xs) c → R w fr' noIds (.cells b off (g xs)) z0) {m' : Mp} : ∀ {x : V} {u : Value} {c : Cnt}, R w (frz X cn) m (.one x u) c →
    (∀ xs us c, R w (frz X cn) m (.list xs us) c → (∀ y ∈ xs, SizeOf.sizeOf y < SizeOf.sizeOf x) → R w fr' m' (.list (borTL ob g xs) us) z0) →
    (∀ y u c, SizeOf.sizeOf y < SizeOf.sizeOf x → R w (frz X cn) m (.one y u) c → R w fr' m' (.one (y.borT ob g) u) z0) → R w fr' m' (.one (x.borT ob g) u) z0 := by
  intro x u c h ihL ih1
  have hf' : ∀ b, b < w.heap.size → frz X cn b → fr' b := fun b hb _ => hf b hb
  cases h with
  | junk => exact .junk
  | bool => exact .bool _
  | int => exact .int _ _
  | str => exact .str _
  | raw u h => exact .raw _ h
  | agg h => exact .agg (ihL _ _ _ h (fun y hy => by have := List.sizeOf_lt_of_mem hy; simp only [V.agg.sizeOf_spec]; omega))
  | tup h => exact .tup (ihL _ _ _ h (fun y hy => by have := List.sizeOf_lt_of_mem hy; simp only [V.tup.sizeOf_spec]; omega))
  | @nil _ o k => cases o <;> exact .nil
  | @nilz _ o k a => cases o <;> exact .nilz
  | frz hl hb hk hn h =>
    exact .frz hl (hf _ hl) hk hn (h.mono (Nat.le_refl _) (fun b hb h => ⟨hf b hb, rfl⟩) (fun _ _ => rfl) (.inr rfl) (fun _ _ h => by simp [noIds] at h))
  | own hb hs hk hn h hcc => exact R.fz (m := m) hf' (.own hb hs hk hn h hcc) (fun b hb _ => hf b hb) m'
  | bx hb hs hk h hcc => exact R.fz (m := m) hf' (.bx hb hs hk h hcc) (fun b hb _ => hf b hb) m'
  | fp hl hb h =>
    exact .fp hl (hf _ hl) (h.mono (Nat.le_refl _) (fun b hb h => ⟨hf b hb, rfl⟩) (fun _ _ => rfl) (.inr rfl) (fun _ _ h => by simp [noIds] at h))
  | fmap hl hb he h => exact .fmap hl (hf _ hl) he h
  | @ptr _ id i j b k h =>
    simp only [V.borT]
    split
    · rename_i hcd
      have hne : seen ob id ≠ [] := by intro h0; rw [h0] at hcd; simp at hcd
      obtain ⟨rfl, cur, e, c1, g1, g2, g3, g4, g5⟩ := hi.object (seen_some hne) h
      have hlt : b < w.heap.size := (Array.getElem?_eq_some_iff.1 g1).1
      obtain ⟨c1, c2, c3, _, h2, _, _⟩ := R.elem g4 g2 hcd.1
      rw [← List.take_append_drop j ((seen ob id).getD i .junk).cells] at h2
      obtain ⟨c4, c5, _, h3, _⟩ := R.split h2
      rw [List.length_take, Nat.min_eq_left hcd.2] at h3
      exact .fp hlt (hf _ hlt) (hg _ _ _ _ h3)
    · exact .junk
  | @arr _ id o n b k cap cur e h hb hn hcap =>
    simp only [V.borT]
    split
    · rename_i hcd
      by_cases hn0 : n = 0
      · subst hn0
        have hlt : b < w.heap.size := hi.mlt _ _ h
        simp only [List.take_zero, hT.nil]
        exact .frz (xs := []) hlt (hf _ hlt) (fun x hx => by simp at hx) (by simp) .cnil
      · have hne : seen ob id ≠ [] := by intro h0; rw [h0] at hcd; simp at hcd; omega
        obtain ⟨rfl, cur, e, c1, g1, g2, g3, g4, g5⟩ := hi.object (seen_some hne) h
        have hlt : b < w.heap.size := (Array.getElem?_eq_some_iff.1 g1).1
        rw [flat_take o] at g4
        obtain ⟨c1, c2, _, q2, q3⟩ := R.split g4
        rw [flat_take_length g2 (by omega), Nat.zero_add, flat_take n] at q2
        obtain ⟨c3, c4, q4, _, q6⟩ := R.split q2
        have hlen : (g (((seen ob id).drop o).take n)).length = n := by rw [hT.len, List.length_take, List.length_drop]; omega
        have := R.frz (w := w) (fr := fr') (m := m') (k := seenK ob id) (xs := g (((seen ob id).drop o).take n)) (b := b) (off := o * seenK ob id) (cap := cap) hlt (hf _ hlt) (hT.un _ _ (uni_take (uni_drop g2 o) n)) (by rw [hlen]; exact hn)
          (by rw [hT.fl]; exact hg _ _ _ _ q4)
        rw [hlen] at this
        exact this
    · exact .junk
  | @arrz _ id o b k cap cur e off h hb ho =>
    simp only [V.borT]
    split
    · have hlt : b < w.heap.size := hi.mlt _ _ h
      simp only [List.take_zero, hT.nil]
      exact .frz (xs := []) hlt (hf _ hlt) (fun x hx => by simp at hx) (by simp) .cnil
    · exact .junk
  | @arrn _ id o =>
    simp only [V.borT]
    split
    · rename_i ad _
      simp only [List.take_zero, hT.nil]
      cases ad <;> first | exact .nil | exact .nilz
    · exact .junk
  | @clo _ f xs us ys vs c d e h1 h2 he =>
    exact .clo (ihL _ _ _ h1 (fun y hy => by have := List.sizeOf_lt_of_mem hy; simp only [V.clo.sizeOf_spec]; omega))
      (ihL _ _ _ h2 (fun y hy => by have := List.sizeOf_lt_of_mem hy; simp only [V.clo.sizeOf_spec]; omega)) (fun _ => by simp [z0])
  | @ifc _ t x u c h => exact .ifc (ih1 _ _ _ (by simp only [V.ifc.sizeOf_spec]; omega) h)

theorem borTListR (hi : Inv X w ob m cn) (hf : ∀ b, b < w.heap.size → fr' b) (hg : ∀ b off xs c, R w (frz X cn) m (.cells b off xs) c → R w fr' noIds (.cells b off (g xs)) z0) {m' : Mp} : ∀ {xs : List V} {us : List Value} {c : Cnt}, R w (frz X cn) m (.list xs us) c → (∀ y ∈ xs, ∀ u c, R w (frz X cn) m (.one y u) c → R w fr' m' (.one (y.borT ob g) u) z0) →
    R w fr' m' (.list (borTL ob g xs) us) z0 := by
  intro xs
  induction xs with
  | nil => intro us c h _; cases h; exact .lnil
  | cons x xs ih =>
    intro us c h hy
    cases h with
    | lcons h1 h2 he =>
      exact .lcons (hy x (by simp) _ _ h1) (ih h2 (fun y hm => hy y (by simp [hm]))) (fun _ => by simp [z0])

theorem borTR (hT : Thru g) (hi : Inv X w ob m cn) (hf : ∀ b, b < w.heap.size → fr' b) (hg : ∀ b off xs c, R w (frz X cn) m (.cells b off xs) c → R w fr' noIds (.cells b off (g xs)) z0) {m' : Mp} (n : Nat) : ∀ {x : V} {u : Value} {c : Cnt}, SizeOf.sizeOf x = n → R w (frz X cn) m (.one x u) c → R w fr' m' (.one (x.borT ob g) u) z0 := by
  induction n using Nat.strongRecOn with
  | _ n ih =>
    intro x u c hn h
    refine borT1R hT hi hf hg h ?_ ?_
    · intro xs us c h hlt
      exact borTListR hi hf hg h (fun y hy u c h => ih _ (hn ▸ hlt y hy) rfl h)
    · intro y u c hlt h
      exact ih _ (hn ▸ hlt) rfl h

theorem borTCells (hT : Thru g) (hi : Inv X w ob m cn) (hf : ∀ b, b < w.heap.size → fr' b) (hg : ∀ b off xs c, R w (frz X cn) m (.cells b off xs) c → R w fr' noIds (.cells b off (g xs)) z0) :
    ∀ b off xs c, R w (frz X cn) m (.cells b off xs) c → R w fr' noIds (.cells b off (borTL ob g xs)) z0 := by
  intro b off xs
  induction xs generalizing off with
  | nil => intro c h; cases h; exact .cnil
  | cons x xs ih =>
    intro c h
    cases h with
    | ccons hc h1c h1 h2 he => exact .ccons hc h1c (borTR hT hi hf hg _ rfl h1) (ih _ _ h2) (fun _ => by simp [z0])

theorem bor3ListR (hi : Inv X w ob m cn) (hf : ∀ b, b < w.heap.size → fr' b) {m' : Mp} {xs : List V} {us : List Value} {c : Cnt} (h : R w (frz X cn) m (.list xs us) c) :
    R w fr' m' (.list (bor3L ob xs) us) z0 :=
  let hg := borTCells (Thru.bor ob _) hi hf (borTCells Thru.fz hi hf (fzCells hf))
  borTListR hi hf hg h (fun _ _ _ _ h => borTR (Thru.bor ob _) hi hf hg _ rfl h)
end

section
variable {P : Program} {X : Ctx} {T : Nat → Option TI} {ops : Array Oper} {rest l l' : List Oper} {st s1 s2 : St} {Q : Exit → St → Prop} {o : Oper}
/-- a call of a function that only reads what it is given -/
theorem Runs.callB3 {fo : Operand} {as : Array Operand} {ts : Array TypeId} {f : FuncId} {first cap args' : List V} {r : V}
    (ho : o.op = .call { callee := .value fo, args := as, argTypes := ts }) (hg : gd ops st o.guard = some true) (hf : val st fo = .clo (.func f) first cap)
    (ha : bor3L st.ob (first ++ as.toList.map (val st) ++ cap) = args')
    (hct : Ct P f args' [] r []) (hF : Callable P f) (hsol : r.solid = true) (he : (⟨setD o.dst (nameV st.ob r).1 st.tm, (nameV st.ob r).2⟩ : St) = s1) (hk : Runs P X ops rest s1 s2) : Runs P X ops (o :: rest) st s2 := by
  subst ha; subst he
  intro rest' Q hq
  have hk := hk rest' Q hq
  intro w m cn a hi hs hd
  refine wpList_step fun K hK => ?_
  rw [gd_ok hs hg, if_pos rfl]
  have hfv := val_ok hs fo
  rw [hf] at hfv
  obtain ⟨us1, vs1, he, hfirst, hcap⟩ : ∃ us1 vs1, a.eval fo = .func (.func f) (List.toArray us1) (List.toArray vs1) ∧ R w (frz X cn) m (.list first us1) z0 ∧ R w (frz X cn) m (.list cap vs1) z0 := by
    generalize a.eval fo = u at hfv
    generalize hz : z0 = c at hfv
    cases hfv with
    | clo h1 h2 he =>
      subst hz
      exact ⟨_, _, rfl, h1.zero fun z => by have := he z; simp [z0] at this; omega, h2.zero fun z => by have := he z; simp [z0] at this; omega⟩
  have hargs : ∀ l : List Operand, R w (frz X cn) m (.list (l.map (val st)) (l.map a.eval)) z0 := by
    intro l
    induction l with
    | nil => exact .lnil
    | cons x l ih => exact .lcons (val_ok hs x) ih (fun _ => rfl)
  have hall := ((hfirst.ljoin (hargs as.toList)).ljoin hcap).zero fun z => by simp [z0]
  let C : Ctx := ⟨w, fun b => b < w.heap.size, fun b => ∃ id, 0 < ((fun _ => z0) : Nat → Cnt) id b, noIds, ([] : List Ob).length⟩
  have hCinv : Inv C w [] noIds (fun _ => z0) := by
    refine ⟨Nat.le_refl _, fun _ _ _ => rfl, rfl, rfl, rfl, fun i o ho => by simp at ho, fun b i j h => absurd h (by simp [z0]), fun i b => by simp [z0], fun i b h => absurd h (by simp [z0]), fun i h => rfl, fun i h => rfl, fun i x h => by simp [noIds] at h, Nat.le_refl _, fun _ _ => rfl⟩
  have hCR : R w (frz C (fun _ => z0)) noIds (.list (bor3L st.ob (first ++ as.toList.map (val st) ++ cap)) (us1 ++ as.toList.map a.eval ++ vs1)) z0 :=
    bor3ListR hi (fr' := frz C (fun _ => z0)) (fun b hb => ⟨.inl hb, fun _ => rfl⟩) hall
  have hcall := hct w (fun b => b < w.heap.size) noIds (fun _ => z0) (us1 ++ as.toList.map a.eval ++ vs1) (fun b hb => ⟨hb, fun _ => rfl⟩) hCinv hCR
  unfold Oper.wp
  have hrun : (execOp a.eval o).run P w = .ok (.enter f (us1 ++ as.toList.map a.eval ++ vs1).toArray) w := by
    simp only [execOp, ho, resolve, Deferred.ofValue, he, Sem.run_bind, Sem.run_pure, Result.andThen_ok, invoke]
    rw [run_callFunc hF]
    congr 2
    apply Array.ext'
    simp
  rw [hrun]
  refine Calls.mono hcall ?_
  rintro e w' ⟨u, mc, cnc, d, rfl, h1, h2, h3, n, h4, h5⟩
  have h1' : Inv (ctxC X w m cn []) w' [] mc cnc := by
    refine ⟨h1.le, fun b hb hn => h1.kept b hb (fun ⟨id, hid⟩ => absurd hid (by simp [z0])), h1.os, h1.tape, h1.output, fun i o ho => by simp at ho, h1.dis, h1.one, fun i b h => ?_, h1.fresh, fun i hi => by simp [ctxC] at hi, h1.mlt, Nat.le_refl _, h1.shp⟩
    obtain ⟨g1, g2⟩ := h1.new i b h
    refine ⟨g1, .inl ?_⟩
    rcases g2 with g2 | ⟨id, g2⟩
    · exact g2
    · exact absurd g2 (by simp [z0])
  have h2' : R w' (frz (ctxC X w m cn []) cnc) mc (.one r u) d := R.solid h2 hsol mc
  have hN : st.ob.length ≤ (nameV st.ob r).2.length := nameV_len st.ob r
  obtain ⟨a1, a2, a3, a4⟩ := after_call hi List.nodup_nil (fun id h => by simp at h) h1' h2' rfl (Nat.zero_le n) h5 hN
  rw [solid_mapId _ r hsol] at a3
  replace a1 : Inv X w' st.ob m _ := a1
  obtain ⟨m2, cn2, b1, b2, b3, _, _⟩ := nameV_ok r a1 (Nat.le_refl _) a3 a4
  have hs2 : Sl X w' m2 cn2 (setD o.dst (nameV st.ob r).1 st.tm) (a.put o.dst u) := by
    have := (b2.Sl (a2.Sl hs)).set o.dst b3
    cases hod : o.dst <;> simpa [setD, hod] using this
  have hd2 : (a.put o.dst u).defers = [] := by cases hod : o.dst <;> simpa [Act.put] using hd
  exact hK _ _ (hk w' m2 cn2 _ b1 hs2 hd2)

end
end Go.Ev
/-! The body of a round: the rules of W in a round's frame. -/
namespace Go.Ev
open Go

section
variable {P : Program} {X : Ctx} {st s1 s2 : St} {Q : Exit → St → Prop} {r : Nat} {ops : Array Oper}

abbrev rfc (r : Nat) : Fence := Fence.wide.inRound r

theorem callsIn_rfc {n r : Nat} {f : FuncId} {args : Array Value} {w : World} {R : Ending → World → Prop} (h : Calls P f args w R) : CallsIn (rfc r) n P f args w R :=
  callsIn_wide.2 h

def noDefer : List Oper → Bool
  | [] => true
  | o :: l => (match o.op with | .defer _ => false | _ => true) && noDefer l

/-- what operations do, they do in a round too -/
theorem wpListIn_of {n : Nat} {Q : Exit → Act → World → Prop} (hq : ∀ a w, ¬ Q .outgrown a w) : ∀ (l : List Oper), noDefer l = true → ∀ (a : Act) (w : World), wpList P ops Q l a w → wpListIn (rfc r) n P ops Q l a w
  | [], _, a, w, h => h
  | o :: l, hd, a, w, h => by
    simp only [noDefer, Bool.and_eq_true] at hd
    have ih := wpListIn_of (n := n) hq l hd.2
    have hnd : ∀ c, o.op ≠ .defer c := fun c e => by rw [e] at hd; exact absurd hd.1 (by simp)
    have hno : ¬ LetsOut Q := fun ⟨a, w, hx⟩ => hq a w hx
    unfold wpList at h
    unfold wpListIn
    split at h
    · rename_i hw
      rw [if_pos hw]
      have h : o.wp P a w (wpList P ops Q l) Q := h.resolve_right (fun hx => hno hx.2)
      refine ⟨fun _ _ => trivial, ?_⟩
      show o.uponIn (rfc r) n P a (wpListIn (rfc r) n P ops Q l) Q ((o.semAt (some r) a.eval).run P w)
      rw [Oper.semAt_some r a.eval o hnd]
      unfold Oper.wp at h
      revert h
      generalize (execOp a.eval o).run P w = res
      intro h
      match res, h with
      | .ok (.value v) w', h => exact ih _ _ h
      | .ok .skip w', h => exact ih _ _ h
      | .ok (.defer d) w', h => exact ih _ _ h
      | .ok (.enter f args) w', h =>
        refine ⟨fun hx => by simp [Fence.wide, Fence.inRound] at hx, callsIn_rfc (Calls.mono h ?_)⟩
        intro e w''
        match e with
        | .returned v => exact fun hx => ih _ _ hx
        | .panicked c => exact fun hx => hx
        | .outgrown => exact fun hx => hx
      | .ok (.row row args) w', h =>
        refine ⟨fun hx => by simp [Fence.wide, Fence.inRound] at hx, fun c cs _ => ?_⟩
        obtain ⟨v, w'', hR, hs⟩ := h c cs
        exact ⟨v, w'', ih _ _ hR, stepsIn_wide.2 hs⟩
      | .ok (.round l' f tmps assign body) w', h => exact h.elim
      | .halt (.panic v) w', h => exact h
    · rename_i hw
      rw [if_neg hw]
      exact ⟨fun _ _ => trivial, ih _ _ h⟩

/-- W in a round's frame -/
def WI (P : Program) (X : Ctx) (r : Nat) (c : Code) (st : St) (Q : Exit → St → Prop) : Prop :=
  ∀ n w m cn a, Inv X w st.ob m cn → Sl X w m cn st.tm a → a.defers = [] → c.wpIn (rfc r) n P (post X Q) a w

theorem WI_skip (h : Q .normal st) : WI P X r .skip st Q := fun _ _ m cn _ hi hs hd => wpIn_skip ⟨st, m, cn, h, hi, hs, hd⟩
theorem WI_exit {id : Nat} (h : Q (.exit id) st) : WI P X r (.exit id) st Q := fun _ _ m cn _ hi hs hd => wpIn_exit ⟨st, m, cn, h, hi, hs, hd⟩
theorem WI_mono {c : Code} {Q' : Exit → St → Prop} (h : WI P X r c st Q) (hq : ∀ e s, Q e s → Q' e s) : WI P X r c st Q' :=
  fun n w m cn a hi hs hd => wpIn_mono (h n w m cn a hi hs hd) (fun _ _ _ ⟨s, m', cn', hq', r⟩ => ⟨s, m', cn', hq _ _ hq', r⟩)
theorem WI_seq {x y : Code} (h : WI P X r x st (thenQ (fun s => WI P X r y s Q) Q)) : WI P X r (.seq x y) st Q := by
  intro n w m cn a hi hs hd
  refine wpIn_seq (wpIn_mono (h n w m cn a hi hs hd) ?_)
  rintro e a' w' ⟨s, m', cn', hq, hi', hs', hd'⟩
  cases e with
  | normal => exact hq n w' m' cn' a' hi' hs' hd'
  | _ => exact ⟨s, m', cn', hq, hi', hs', hd'⟩
theorem WI_block {id : Nat} {c : Code} (h : WI P X r c st (blockQ id Q)) : WI P X r (.block id c) st Q := by
  intro n w m cn a hi hs hd
  refine wpIn_block (wpIn_mono (h n w m cn a hi hs hd) ?_)
  rintro e a' w' ⟨s, m', cn', hq, hi', hs', hd'⟩
  cases e with
  | exit id' =>
    simp only [Exit.inBlock]
    simp only [blockQ] at hq
    split <;> rename_i hid
    · rw [if_pos hid] at hq; exact ⟨s, m', cn', hq, hi', hs', hd'⟩
    · rw [if_neg hid] at hq; exact ⟨s, m', cn', hq, hi', hs', hd'⟩
  | _ => exact ⟨s, m', cn', hq, hi', hs', hd'⟩
theorem WI_cond {c : Operand} {x y : Code} {t : Bool} (hc : val st c = .bool t) (h1 : t = true → WI P X r x st Q) (h2 : t = false → WI P X r y st Q) :
    WI P X r (.cond c x y) st Q := by
  intro n w m cn a hi hs hd
  have hR := val_ok hs c
  rw [hc] at hR
  have he : a.eval c = .bool t := by
    generalize a.eval c = u at hR
    cases hR
    rfl
  exact wpIn_cond_split he (fun ht => h1 ht n w m cn a hi hs hd) (fun ht => h2 ht n w m cn a hi hs hd)
theorem WI_condS {c : Operand} {x y : Code} {t : Bool} {v : V} (h1 : t = true → WI P X r x st Q) (h2 : t = false → WI P X r y st Q) (hc : val st c = v := by simp; rfl) (hv : v = .bool t := by rfl) : WI P X r (.cond c x y) st Q :=
  WI_cond (hc.trans hv) h1 h2
theorem WI_le {c : Code} (h : Le X st s1) (hk : WI P X r c s1 Q) : WI P X r c st Q := by
  intro n w m cn a hi hs hd
  obtain ⟨m', cn', hi', hs'⟩ := h w m cn a hi hs
  exact hk n w m' cn' a hi' hs' hd
theorem WI_reg {id : Nat} (h : Runs P X ops ops.toList st s1) (hq : Q .normal s1) (hnd : noDefer ops.toList = true := by rfl) : WI P X r (.region id ops false) st Q := by
  intro n w m cn a hi hs hd
  have h1 := h [] (fun e s => e = .normal ∧ s = s1) (WL_nil ⟨rfl, rfl⟩) w m cn a hi hs hd
  rw [List.append_nil] at h1
  have h2 := wpListIn_of (r := r) (n := n) (fun a w hx => by obtain ⟨_, _, _, ⟨hx, _⟩, _⟩ := hx; cases hx) ops.toList hnd a w h1
  refine wpIn_mono (wpIn_region_list (id := id) h2) ?_
  rintro e a' w' ⟨s, m', cn', ⟨rfl, rfl⟩, hr⟩
  exact ⟨s, m', cn', hq, hr⟩
theorem WI_rseqK {id : Nat} {y : Code} (ks : List Nat) (h : Runs P X ops ops.toList st s1) (hk : WI P X r y (s1.keep ks) Q) (hnd : noDefer ops.toList = true := by rfl) : WI P X r (.seq (.region id ops false) y) st Q :=
  WI_seq (WI_reg h (WI_le (Le.keep ks s1) hk) hnd)
theorem WI_loopF {α : Type} {c : Code} (f : α → St) (I : α → Prop) (μ : α → Nat) (a0 : α) (h0 : Le X st (f a0)) (hI : I a0)
    (round : ∀ a, I a → WI P X r c (f a) (thenQ (fun s' => ∃ a', Le X s' (f a') ∧ I a' ∧ μ a' < μ a) Q)) : WI P X r (.loop c) st Q := by
  refine WI_le h0 ?_
  intro rm w m cn a hi hs hd
  intro b k cs hro hb hr
  have key : ∀ n x, μ x = n → I x → ∀ w m cn a, Inv X w (f x).ob m cn → Sl X w m cn (f x).tm a → a.defers = [] →
      ∃ e a' w', post X Q e a' w' ∧ ArrivesIn (Machine.fenced P (rfc r)) P (lone (b.atR a (.code c :: .inLoop c :: k)) cs w) b k cs e a' w' := by
    intro n
    induction n using Nat.strongRecOn with
    | _ n ih =>
      intro x hn hI w m cn a hi hs hd
      obtain ⟨e, a₁, w₁, ⟨s₁, m₁, cn₁, hq, hi₁, hs₁, hd₁⟩, harr⟩ := round x hI rm w m cn a hi hs hd b (.inLoop c :: k) cs hro hb hr
      cases e with
      | normal =>
        obtain ⟨x', hle, hI₁, hlt⟩ := hq
        obtain ⟨m₂, cn₂, hi₂, hs₂⟩ := hle _ _ _ _ hi₁ hs₁
        obtain ⟨e₂, a₂, w₂, hq₂, harr₂⟩ := ih (μ x') (hn ▸ hlt) x' rfl hI₁ w₁ m₂ cn₂ a₁ hi₂ hs₂ hd₁
        exact ⟨e₂, a₂, w₂, hq₂, .of_steps (StepsIn.trans harr (.one (fenced_calm hb hr rfl) stepR_inLoop)) harr₂⟩
      | exit id => exact ⟨_, a₁, w₁, ⟨s₁, m₁, cn₁, hq, hi₁, hs₁, hd₁⟩, .pass (x := .inLoop c) rfl (fun _ _ => .inl (by simp)) harr⟩
      | goto l => exact ⟨_, a₁, w₁, ⟨s₁, m₁, cn₁, hq, hi₁, hs₁, hd₁⟩, .pass (x := .inLoop c) rfl (fun _ _ => .inl (by simp)) harr⟩
      | ret => exact ⟨_, a₁, w₁, ⟨s₁, m₁, cn₁, hq, hi₁, hs₁, hd₁⟩, .pass (x := .inLoop c) rfl (fun _ _ => .inl (by simp)) harr⟩
      | panic ch => exact ⟨_, a₁, w₁, ⟨s₁, m₁, cn₁, hq, hi₁, hs₁, hd₁⟩, .pass (x := .inLoop c) rfl (fun _ _ => .inl (by simp)) harr⟩
      | outgrown => exact ⟨_, a₁, w₁, ⟨s₁, m₁, cn₁, hq, hi₁, hs₁, hd₁⟩, .pass (x := .inLoop c) rfl (fun _ _ => .inl (by simp)) harr⟩
  obtain ⟨e, a', w', hq, harr⟩ := key _ a0 rfl hI w m cn a hi hs hd
  exact ⟨e, a', w', hq, .of_steps (.one (fenced_calm hb hr rfl) stepR_loop) harr⟩
theorem WI_loopU {α : Type} {c : Code} (ks : List Nat) (u : α → List (Nat × V)) (uo : α → List (Nat × Ob)) (I : α → Prop) (μ : α → Nat) (a0 : α) {f : α → St}
    (hf : ∀ a, (st.keep ks).upd (u a) (uo a) = f a) (h0 : st.keep ks = f a0) (hI : I a0)
    (round : ∀ a, I a → WI P X r c (f a) (thenQ (fun s' => ∃ a', Le X s' (f a') ∧ I a' ∧ μ a' < μ a) Q)) : WI P X r (.loop c) st Q :=
  WI_loopF f I μ a0 (Le.trans (Le.keep ks st) (Le.of_eq h0)) hI round
end
end Go.Ev
/-! A range over a function: its record is one block of the activation's own, beside its objects. -/
namespace Go.Ev
open Go

section
variable {P : Program} {X : Ctx} {T : Nat → Option TI} {st : St} {w w' : World} {m : Mp} {cn : Nat → Cnt} {ob : List Ob} {tm : List V} {a : Act}

theorem obOK.world {fr fr' : Nat → Prop} {cnt : Cnt} {id : Nat} {o : Ob} (hsz : w.heap.size ≤ w'.heap.size) (hf : ∀ b, b < w.heap.size → fr b → fr' b ∧ w'.heap[b]? = w.heap[b]?)
    (hc : ∀ b, 0 < cnt b → w'.heap[b]? = w.heap[b]?) (hm : ∀ id x, m id = some x → w'.shape? x.1 = w.shape? x.1) (h : obOK w fr m cnt id o) : obOK w' fr' m cnt id o := by
  cases o with
  | none => trivial
  | some p =>
    rcases h with h | ⟨b, cur, e, c, h1, h2, h3, h4, h5, h6⟩
    · exact .inl h
    · have hb : w'.heap[b]? = w.heap[b]? := hc b (by rw [h6]; simp)
      exact .inr ⟨b, cur, e, c, h1, hb.trans h2, h3, h4, h5.mono hsz hf (fun x hx => hc x (by rw [h6]; omega)) (.inr hb) (fun id x hx => ⟨hx, hm id x hx⟩), h6⟩

theorem shape_same {b : Nat} (h : w'.heap[b]? = w.heap[b]?) : w'.shape? b = w.shape? b := by simp only [World.shape?, h]
def nonCells : Obj → Bool
  | .cells .. => false
  | _ => true
theorem shape_non {b : Nat} {o : Obj} (h : w.heap[b]? = some o) (ho : nonCells o = true) : w.shape? b = none := by
  unfold World.shape?; rw [h]; cases o <;> first | rfl | cases ho

/-- one block that holds no cells, and that nothing of ours is in -/
def JB (X : Ctx) (r : Nat) (o : Obj) (w : World) (cn : Nat → Cnt) : Prop :=
  r < X.w0.heap.size ∧ X.own0 r ∧ ¬ X.fr0 r ∧ w.heap[r]? = some o ∧ nonCells o = true ∧ ∀ id, cn id r = 0

theorem JB.update {r : Nat} {o o' : Obj} (hi : Inv X w ob m cn) (hs : Sl X w m cn tm a) (hj : JB X r o w cn) (ho : nonCells o' = true) :
    Inv X (w.putObj r o') ob m cn ∧ Sl X (w.putObj r o') m cn tm a ∧ JB X r o' (w.putObj r o') cn := by
  obtain ⟨j1, j2, j3, j4, j5, j6⟩ := hj
  have hlt : r < w.heap.size := (Array.getElem?_eq_some_iff.1 j4).1
  have s1 : (w.putObj r o').heap[r]? = some o' := World.putObj_heap_same hlt
  have s2 : ∀ b, b ≠ r → (w.putObj r o').heap[b]? = w.heap[b]? := fun b hb => World.putObj_heap_other hb
  have hsh : ∀ b, (w.putObj r o').shape? b = w.shape? b := fun b => by
    by_cases hb : b = r
    · subst hb; rw [shape_non s1 ho, shape_non j4 j5]
    · exact shape_same (s2 b hb)
  have hfz : ∀ b, frz X cn b → b ≠ r := by
    rintro b ⟨h1, _⟩ rfl
    rcases h1 with h1 | h1
    · exact j3 h1
    · omega
  have hsz : w.heap.size ≤ (w.putObj r o').heap.size := by simp [World.putObj]
  have hown : ∀ i b, 0 < cn i b → b ≠ r := by rintro i b h rfl; rw [j6 i] at h; omega
  refine ⟨⟨Nat.le_trans hi.le hsz, fun b hb ho => ?_, hi.os, hi.tape, hi.output, fun i o ho => ?_, hi.dis, hi.one, fun i b h => ⟨Nat.lt_of_lt_of_le (hi.new i b h).1 hsz, (hi.new i b h).2⟩, hi.fresh, hi.pas, fun id x hx => Nat.lt_of_lt_of_le (hi.mlt id x hx) hsz, hi.n0, fun b hb => ?_⟩, ?_, j1, j2, j3, s1, ho, j6⟩
  · rw [s2 b (fun e => ho (e ▸ j2))]; exact hi.kept b hb ho
  · exact (hi.obj i o ho).world hsz (fun b _ hf => ⟨hf, s2 b (hfz b hf)⟩) (fun b hb => s2 b (hown i b hb)) (fun _ _ _ => hsh _)
  · rw [hsh]; exact hi.shp b hb
  · exact R.mono hs hsz (fun b _ hf => ⟨hf, s2 b (hfz b hf)⟩) (fun b hb => absurd hb (by simp [z0])) trivial (fun id x hx => ⟨hx, hsh _⟩)

/-- the context behind the laying of blocks that hold no cells; they are the activation's own -/
def ctxB (X : Ctx) (w W : World) (m : Mp) (cn : Nat → Cnt) (n : Nat) : Ctx :=
  ⟨W, fun b => b < w.heap.size ∧ frz X cn b, fun b => (∃ id, 0 < cn id b) ∨ w.heap.size ≤ b, m, n⟩

theorem Inv.lay {W : World} (hi : Inv X w ob m cn) (hs : Sl X w m cn tm a) (hsz : w.heap.size ≤ W.heap.size) (hsame : ∀ b, b < w.heap.size → W.heap[b]? = w.heap[b]?) {nn : Nat} (hnn : nn ≤ ob.length) :
    Inv (ctxB X w W m cn nn) W ob m cn ∧ Sl (ctxB X w W m cn nn) W m cn tm a ∧ ∀ r o, w.heap.size ≤ r → W.heap[r]? = some o → nonCells o = true → JB (ctxB X w W m cn nn) r o W cn := by
  have hown : ∀ i b, 0 < cn i b → b < w.heap.size := fun i b h => (hi.new i b h).1
  have hfr : ∀ b, b < w.heap.size → frz X cn b → frz (ctxB X w W m cn nn) cn b ∧ W.heap[b]? = w.heap[b]? := fun b hb hf => ⟨⟨.inl ⟨hb, hf⟩, hf.2⟩, hsame b hb⟩
  have hm : ∀ id x, m id = some x → W.shape? x.1 = w.shape? x.1 := fun id x hx => shape_same (hsame _ (hi.mlt id x hx))
  refine ⟨⟨Nat.le_refl _, fun _ _ _ => rfl, rfl, rfl, rfl, fun i o ho => ?_, hi.dis, hi.one, fun i b h => ⟨Nat.lt_of_lt_of_le (hown i b h) hsz, .inr (.inl ⟨i, h⟩)⟩, hi.fresh, fun _ _ => rfl, fun id x hx => Nat.lt_of_lt_of_le (hi.mlt id x hx) hsz, hnn, fun _ _ => rfl⟩, ?_, fun r o hr hro hn => ?_⟩
  · exact (hi.obj i o ho).world hsz hfr (fun b hb => hsame b (hown i b hb)) hm
  · exact R.mono hs hsz hfr (fun b hb => absurd hb (by simp [z0])) trivial (fun id x hx => ⟨hx, hm id x hx⟩)
  · refine ⟨(Array.getElem?_eq_some_iff.1 hro).1, .inr hr, fun h => ?_, hro, hn, fun id => ?_⟩
    · have : r < w.heap.size := h.1
      omega
    · rcases Nat.eq_zero_or_pos (cn id r) with h0 | h0
      · exact h0
      · have := hown id r h0; omega

theorem JB.other {r q : Nat} {o2 o' : Obj} (hq : q ≠ r) (hj : JB X q o2 w cn) : JB X q o2 (w.putObj r o') cn :=
  ⟨hj.1, hj.2.1, hj.2.2.1, (World.putObj_heap_other hq).trans hj.2.2.2.1, hj.2.2.2.2.1, hj.2.2.2.2.2⟩

theorem Inv.back {W : World} {ob' : List Ob} {m' : Mp} {cn' : Nat → Cnt} (hi : Inv X w ob m cn) (hsz : w.heap.size ≤ W.heap.size) (hsame : ∀ b, b < w.heap.size → W.heap[b]? = w.heap[b]?)
    (hos : W.os = w.os) (htp : W.tape = w.tape) (hou : W.output = w.output) {nn : Nat} (hnn : X.n0 ≤ nn) (h : Inv (ctxB X w W m cn nn) w' ob' m' cn') :
    Inv X w' ob' m' cn' ∧ ∀ b, frz (ctxB X w W m cn nn) cn' b → frz X cn' b := by
  have hle : W.heap.size ≤ w'.heap.size := h.le
  have hXw := hi.le
  have hfr : ∀ b, frz (ctxB X w W m cn nn) cn' b → frz X cn' b := by
    rintro b ⟨h1, h2⟩
    rcases h1 with ⟨_, h1⟩ | h1
    · exact ⟨h1.1, h2⟩
    · have h1 : W.heap.size ≤ b := h1
      exact ⟨.inr (by omega), h2⟩
  have hnot : ∀ b, b < X.w0.heap.size → ¬ X.own0 b → ¬ (ctxB X w W m cn nn).own0 b := by
    rintro b hb ho (⟨id, hid⟩ | hw)
    · rcases (hi.new id b hid).2 with h | h
      · omega
      · exact ho h
    · omega
  refine ⟨⟨by omega, fun b hb ho => ?_, h.os.trans (hos.trans hi.os), h.tape.trans (htp.trans hi.tape), h.output.trans (hou.trans hi.output), fun i o ho => (h.obj i o ho).mono (fun b _ hf => hfr b hf), h.dis, h.one, fun i b hb => ⟨(h.new i b hb).1, ?_⟩,
    h.fresh, fun id hid => ?_, h.mlt, Nat.le_trans hnn h.n0, fun b hb => ?_⟩, hfr⟩
  · have h1 : w'.heap[b]? = W.heap[b]? := h.kept b (show b < W.heap.size by omega) (hnot b hb ho)
    rw [h1, hsame b (by omega)]; exact hi.kept b hb ho
  · rcases (h.new i b hb).2 with h1 | ⟨id, h1⟩ | h1
    · have h1 : W.heap.size ≤ b := h1
      exact .inl (by omega)
    · exact (hi.new id b h1).2
    · exact .inl (by omega)
  · have h1 : m' id = m id := h.pas id (show id < nn from Nat.lt_of_lt_of_le hid hnn)
    rw [h1]; exact hi.pas id hid
  · have h1 : w'.shape? b = W.shape? b := h.shp b (show b < W.heap.size by omega)
    rw [h1, shape_same (hsame b (by omega))]; exact hi.shp b hb

/-- a round's body, in a context of its own: what it leaves -/
theorem round_lift {ob' : List Ob} {m' : Mp} {cn' : Nat → Cnt} {nn : Nat} (hnn : X.n0 ≤ nn) (hi : Inv X w ob m cn) (h : Inv (ctxB X w w m cn nn) w' ob' m' cn') :
    Inv X w' ob' m' cn' ∧ (∀ r o, JB X r o w cn → JB X r o w' cn') ∧ (∀ b, b < w.heap.size → frz X cn b → frz X cn' b ∧ w'.heap[b]? = w.heap[b]?) ∧
      ∀ id, id < nn → m' id = m id ∧ ∀ x, m id = some x → w'.shape? x.1 = w.shape? x.1 := by
  obtain ⟨g1, g2⟩ := hi.back (Nat.le_refl _) (fun _ _ => rfl) rfl rfl rfl hnn h
  have hnew : ∀ id b, 0 < cn' id b → b < w.heap.size → ∃ k, 0 < cn k b := fun id b hb hlt => by
    rcases (h.new id b hb).2 with h1 | h1 | h1
    · have h1 : w.heap.size ≤ b := h1
      omega
    · exact h1
    · omega
  have hkept : ∀ b, b < w.heap.size → (∀ id, cn id b = 0) → w'.heap[b]? = w.heap[b]? := fun b hb h0 => h.kept b hb (by
    rintro (⟨id, hid⟩ | h1)
    · rw [h0 id] at hid; omega
    · omega)
  have hz : ∀ b, b < w.heap.size → (∀ id, cn id b = 0) → ∀ id, cn' id b = 0 := fun b hb h0 id => by
    rcases Nat.eq_zero_or_pos (cn' id b) with h1 | h1
    · exact h1
    · obtain ⟨k, hk⟩ := hnew id b h1 hb
      rw [h0 k] at hk; omega
  refine ⟨g1, fun r o ⟨j1, j2, j3, j4, j5, j6⟩ => ?_, fun b hb hf => ⟨⟨hf.1, hz b hb hf.2⟩, hkept b hb hf.2⟩, fun id hid => ⟨h.pas id hid, fun x hx => h.shp _ (hi.mlt id x hx)⟩⟩
  have hbw : r < w.heap.size := Nat.lt_of_lt_of_le j1 hi.le
  exact ⟨j1, j2, j3, (hkept r hbw j6).trans j4, j5, hz r hbw j6⟩
/-- the slots stay what they were -/
theorem Sl.after {nn : Nat} {m' : Mp} {cn' : Nat → Cnt} (hs : Sl X w m cn tm a) (hl : limL nn tm = true) (hsz : w.heap.size ≤ w'.heap.size) (hf : ∀ b, b < w.heap.size → frz X cn b → frz X cn' b ∧ w'.heap[b]? = w.heap[b]?)
    (hm : ∀ id, id < nn → m' id = m id ∧ ∀ x, m id = some x → w'.shape? x.1 = w.shape? x.1) : Sl X w' m' cn' tm a := by
  have h1 : R w (frz X cn) (fun id => if id < nn then m id else none) (.list tm a.tmps.toList) z0 := R.limM (n := nn) (fun id hid => by simp [hid]) hs hl
  refine R.mono h1 hsz hf (fun b hb => absurd hb (by simp [z0])) trivial (fun id x hx => ?_)
  have hx : (if id < nn then m id else none) = some x := hx
  split at hx
  · rename_i hid
    exact ⟨(hm id hid).1.trans hx, (hm id hid).2 x hx⟩
  · cases hx
end
end Go.Ev
