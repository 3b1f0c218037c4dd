/- Part 5 of what the proofs lean on: an evaluator of Go functions over abstract values. Conditions: none. -/
import Derived.Test.YtfdanoafhehjnaaGreatK03
import Derived.HandedShaped
import Derived.Carry
import Derived.ProofKit
import Derived.Deep.Slices
set_option linter.all false
set_option linter.unusedVariables false
set_option linter.unusedSimpArgs false
set_option maxHeartbeats 2000000
set_option maxRecDepth 100000
/-! A region that draws its order and holds calls and an operation (an allocation) that may come anywhere among them. -/
namespace Go.Ev
open Go

/-- what may come next: one operation, or one of two -/
inductive Tr where
  | tail
  | one (i : Nat) (t : Tr)
  | two (i j : Nat) (t u : Tr)

section
variable {P : Program} {ops : Array Oper} {Q : Exit → Act → World → Prop}

def trB (md : Region.Mode) (ops : Array Oper) (n : Nat) : Tr → Nat → Array Bool → Bool
  | .tail, k, listed => decide (k = 0) && Region.seqB md ops (ops.size - n) n listed
  | .one i t, k, listed => decide (i < n) && decide (0 < k) && decide (Region.ready md ops listed = [i]) && trB md ops n t (k - 1) (listed.setIfInBounds i true)
  | .two i j t u, k, listed => decide (i < n) && decide (j < n) && decide (0 < k) && decide (Region.ready md ops listed = [i, j]) && trB md ops n t (k - 1) (listed.setIfInBounds i true) && trB md ops n u (k - 1) (listed.setIfInBounds j true)
def headTB (md : Region.Mode) (ops : Array Oper) (n : Nat) (t : Tr) (k : Nat) : List Nat → Array Bool → Bool
  | i :: A, listed => decide (i < n) && (Region.ready md ops listed).contains i && Region.free md ops listed i && headTB md ops n t k A (listed.setIfInBounds i true)
  | [], listed => trB md ops n t k listed
def treeB (md : Region.Mode) (ops : Array Oper) (n : Nat) (A : List Nat) (t : Tr) : Bool :=
  Region.noSelect ops && decide (n < ops.size) && Region.sinkB md ops n && Region.chainB md ops n && decide (A.length ≤ n) && headTB md ops n t (n - A.length) A (Array.replicate ops.size false)

def HeadT (P : Program) (ops : Array Oper) (Q : Exit → Act → World → Prop) (S : World → Prop) (n : Nat) : Tr → Act → World → Prop
  | .one i t, a, w => wpOp P ops Q i (fun a' w' => S w' ∧ HeadT P ops Q S n t a' w') a w
  | .two i j t u, a, w => wpOp P ops Q i (fun a' w' => S w' ∧ HeadT P ops Q S n t a' w') a w ∧ wpOp P ops Q j (fun a' w' => S w' ∧ HeadT P ops Q S n u a' w') a w
  | .tail, a, w => wpList P ops Q (ops.toList.drop n) a w
def HeadK (P : Program) (ops : Array Oper) (S : World → Prop) (K : Act → World → Prop) : List Nat → Act → World → Prop
  | i :: A, a, w => ∃ oi v, ops[i]? = some oi ∧ YieldsIf P ops S oi v a ∧ HeadK P ops S K A (a.put oi.dst v) w
  | [], a, w => K a w

theorem wpAnyT_tr {md : Region.Mode} {S : World → Prop} {n : Nat} (hsel : Region.noSelect ops = true) (hn : n < ops.size) (hs : Region.sinkB md ops n = true) (hc : Region.chainB md ops n = true) (hQ : ∀ c a w, ¬ Q (.panic c) a w) :
    ∀ (t : Tr) (k : Nat) (listed : Array Bool) (a : Act) (w : World), HeadInv md ops n listed → S w → trB md ops n t k listed = true → HeadT P ops Q S n t a w →
      wpAnyT P md ops Q S n (k + (ops.size - n)) listed a w
  | .one i t, k, listed, a, w, inv, hS, hB, h => by
    simp only [trB, Bool.and_eq_true, decide_eq_true_eq] at hB
    obtain ⟨⟨⟨hin, hk⟩, hr⟩, hB⟩ := hB
    rw [show k + (ops.size - n) = (k - 1 + (ops.size - n)) + 1 from by omega]
    refine ⟨fun h0 => (by rw [hr] at h0; cases h0), fun j hj => ?_⟩
    have hmem := hj
    rw [hr] at hj
    have hji : j = i := by simpa using hj
    subst hji
    have h : wpOp P ops Q j (fun a' w' => S w' ∧ HeadT P ops Q S n t a' w') a w := h
    exact wpOp_mono (fun a' w' h' => ⟨fun _ => h'.1, wpAnyT_tr hsel hn hs hc hQ t _ _ _ _ (inv.set hmem hin) h'.1 hB h'.2⟩) h
  | .two i i2 t u, k, listed, a, w, inv, hS, hB, h => by
    simp only [trB, Bool.and_eq_true, decide_eq_true_eq] at hB
    obtain ⟨⟨⟨⟨⟨hin, hin2⟩, hk⟩, hr⟩, hB⟩, hB2⟩ := hB
    rw [show k + (ops.size - n) = (k - 1 + (ops.size - n)) + 1 from by omega]
    refine ⟨fun h0 => (by rw [hr] at h0; cases h0), fun j hj => ?_⟩
    have hmem := hj
    rw [hr] at hj
    have h : wpOp P ops Q i (fun a' w' => S w' ∧ HeadT P ops Q S n t a' w') a w ∧ wpOp P ops Q i2 (fun a' w' => S w' ∧ HeadT P ops Q S n u a' w') a w := h
    have hji : j = i ∨ j = i2 := by simpa using hj
    rcases hji with rfl | rfl
    · exact wpOp_mono (fun a' w' h' => ⟨fun _ => h'.1, wpAnyT_tr hsel hn hs hc hQ t _ _ _ _ (inv.set hmem hin) h'.1 hB h'.2⟩) h.1
    · exact wpOp_mono (fun a' w' h' => ⟨fun _ => h'.1, wpAnyT_tr hsel hn hs hc hQ u _ _ _ _ (inv.set hmem hin2) h'.1 hB2 h'.2⟩) h.2
  | .tail, k, listed, a, w, inv, hS, hB, h => by
    simp only [trB, Bool.and_eq_true, decide_eq_true_eq] at hB
    obtain ⟨rfl, hB⟩ := hB
    have h : wpList P ops Q (ops.toList.drop n) a w := h
    have hlen : (ops.toList.drop n).length = ops.size - n := by simp
    have := wpAnyT_tail (P := P) (Q := Q) (md := md) (S := S) (n := n) (ops.toList.drop n) n listed a w (Nat.le_refl _) (fun j => by simp) (fun h => by omega) inv.size (by rw [hlen]; exact hB) h
    rw [hlen] at this
    simpa using this

theorem wpAnyT_headT {md : Region.Mode} {S : World → Prop} {n : Nat} (hsel : Region.noSelect ops = true) (hn : n < ops.size) (hs : Region.sinkB md ops n = true) (hc : Region.chainB md ops n = true) (hQ : ∀ c a w, ¬ Q (.panic c) a w) (t : Tr) (k : Nat) :
    ∀ (A : List Nat) (listed : Array Bool) (a : Act) (w : World), HeadInv md ops n listed → S w → headTB md ops n t k A listed = true → HeadK P ops S (HeadT P ops Q S n t) A a w →
      wpAnyT P md ops Q S n (A.length + k + (ops.size - n)) listed a w
  | i :: A, listed, a, w, inv, hS, hB, ⟨oi, v, hi, hy, h⟩ => by
    simp only [headTB, Bool.and_eq_true, decide_eq_true_eq] at hB
    obtain ⟨⟨⟨hin, hr⟩, hf⟩, hB⟩ := hB
    have hr' : i ∈ Region.ready md ops listed := by simpa using hr
    have := wpAnyT_headT hsel hn hs hc hQ t k A _ _ _ (inv.set hr' hin) hS hB h
    rw [show (i :: A).length + k + (ops.size - n) = (A.length + k + (ops.size - n)) + 1 from by simp; omega]
    exact wpAnyT_first hi (Region.noSelect_spec hsel) hs hc hn hin hQ _ listed a w inv (Region.free_spec hi hf) hr' hy hS this
  | [], listed, a, w, inv, hS, hB, h => by
    have := wpAnyT_tr (P := P) (Q := Q) (S := S) hsel hn hs hc hQ t k listed a w inv hS hB h
    simpa using this

theorem wp_region_tree {id : Nat} {S : World → Prop} {n : Nat} {A : List Nat} {t : Tr} {a : Act} {w : World} (hm : P.follows .mixedOrders = true) (hB : treeB .any ops n A t = true) (hQ : ∀ c a w, ¬ Q (.panic c) a w)
    (hS : S { w with drawn := w.drawn + 1 }) (h : HeadK P ops S (HeadT P ops Q S n t) A a { w with drawn := w.drawn + 1 }) : (Code.region id ops true).wp P Q a w := by
  simp only [treeB, Bool.and_eq_true, decide_eq_true_eq] at hB
  obtain ⟨⟨⟨⟨⟨hsel, hn⟩, hs⟩, hc⟩, hAB⟩, hhead⟩ := hB
  have inv0 : HeadInv .any ops n (Array.replicate ops.size false) :=
    ⟨by simp, fun j oj _ hl => (by rw [getD_replicate_false] at hl; cases hl), fun t _ ht => getD_in (by simpa using ht) (getD_replicate_false _ _)⟩
  have := wpAnyT_headT hsel hn hs hc hQ t (n - A.length) A _ _ _ inv0 hS hhead h
  rw [show A.length + (n - A.length) + (ops.size - n) = ops.size from by omega] at this
  exact wp_region_any hm (wpAny_of_T _ _ _ _ this)
end

section
variable {P : Program} {X : Ctx} {st s1 s2 s3 : St} {Q : Exit → St → Prop} {T : Nat → Option TI} {ls : List Oper} {L : List Nat}

theorem runTk_okK (hT : TOK P T) {n0 : Nat} {ops : Array Oper} {w : World} {m : Mp} {cn : Nat → Cnt} {K : Act → World → Prop} :
    ∀ {A : List Nat} {st s1 : St} {a : Act}, runTk T n0 ops L A st = some s1 → Inv X w st.ob m cn → Sl X w m cn st.tm a → a.defers = [] →
      (∀ a', Sl X w m cn s1.tm a' → a'.defers = [] → K a' w) → HeadK P ops (Kr X cn L w) K A a w
  | [], st, s1, a, h, hi, hs, hd, hk => by simp only [runTk] at h; cases h; exact hk a hs hd
  | i :: A, st, s1, a, h, hi, hs, hd, hk => by
    simp only [runTk] at h
    split at h
    · cases h
    · rename_i o ho
      split at h
      · rename_i hg
        split at h
        · rename_i hp
          split at h
          · rename_i x st' hx
            obtain ⟨u, hu, hR⟩ := (opB_okp (X := X) (L := L) hT hx hp.1 hp.2).1 w m cn a hi hs
            refine ⟨o, u, ho, .inl ⟨gd_ok hs hg, hu⟩, runTk_okK hT h hi ?_ (put_defers _ _ hd) hk⟩
            have := hs.set o.dst hR
            cases hod : o.dst <;> simpa [setD, hod] using this
          · cases h
        · cases h
      · rename_i hg
        refine ⟨o, undef, ho, .inr ⟨gd_ok hs hg, rfl⟩, runTk_okK hT h hi ?_ (put_defers _ _ hd) hk⟩
        have := hs.set o.dst (x := .tup []) (u := undef) (.tup .lnil)
        cases hod : o.dst <;> simpa [setD, hod] using this
      · cases h

/-- what comes, the objects L out of reach -/
inductive StepsT (P : Program) (ops : Array Oper) (L : List Nat) : Tr → St → St → Prop
  | tail {s : St} : StepsT P ops L .tail s s
  | one {i : Nat} {o : Oper} {t : Tr} {s s' s1 s2 : St} (ho : ops[i]? = some o) (hL : ∀ id ∈ L, id < s.ob.length)
      (h : ∀ X' : Ctx, X'.n0 = s.ob.length → Runs P X' ops [o] ⟨s.tm, hid L s.ob⟩ s') (he : (⟨s'.tm, unh s.ob L s'.ob⟩ : St) = s1) (ht : StepsT P ops L t s1 s2) : StepsT P ops L (.one i t) s s2
  | two {i j : Nat} {t u : Tr} {s s2 : St} (h1 : StepsT P ops L (.one i t) s s2) (h2 : StepsT P ops L (.one j u) s s2) : StepsT P ops L (.two i j t u) s s2

theorem stepsT_ok {n : Nat} {ops : Array Oper} {Qf : Exit → Act → World → Prop} {w0 : World} {cn0 : Nat → Cnt} {t : Tr} (h : StepsT P ops L t st s1) :
    ∀ {w : World} {m : Mp} {cn : Nat → Cnt} {a : Act}, Inv X w st.ob m cn → Sl X w m cn st.tm a → a.defers = [] → Kr X cn0 L w0 w → (∀ b, b < w0.heap.size → frz X cn0 b → frz X cn b) → (∀ id ∈ L, cn id = cn0 id) →
      (∀ w m cn a, Inv X w s1.ob m cn → Sl X w m cn s1.tm a → a.defers = [] → wpList P ops Qf (ops.toList.drop n) a w) → HeadT P ops Qf (Kr X cn0 L w0) n t a w := by
  induction h with
  | tail => intro w m cn a hi hs hd _ _ _ hk; exact hk w m cn a hi hs hd
  | two h1 h2 ih1 ih2 => intro w m cn a hi hs hd hK hF hC hk; exact ⟨ih1 hi hs hd hK hF hC hk, ih2 hi hs hd hK hF hC hk⟩
  | @one i o t s s' s1 s2 ho hL h he ht ih =>
    intro w m cn a hi hs hd hK hF hC hk
    subst he
    obtain ⟨h1, h2⟩ := hi.hide L
    have hs' : Sl (ctxH X w m cn L s.ob.length) w m (cnH L cn) s.tm a := hs.mono (Nat.le_refl _) (fun b hb hf => ⟨h2 b hb hf, rfl⟩) (fun _ _ => rfl) trivial (fun _ _ h => ⟨h, rfl⟩)
    have hr := h (ctxH X w m cn L s.ob.length) rfl [] (fun e st => e = .normal ∧ st = s') (WL_nil ⟨rfl, rfl⟩) w m (cnH L cn) a h1 hs' hd
    have step : wpList P ops (post (ctxH X w m cn L s.ob.length) (fun e st => e = .normal ∧ st = s')) [o] a w := hr
    have fin : ∀ a' w', post (ctxH X w m cn L s.ob.length) (fun e st => e = .normal ∧ st = s') .normal a' w' → Kr X cn0 L w0 w' ∧ HeadT P ops Qf (Kr X cn0 L w0) n t a' w' := by
      rintro a' w' ⟨st2, m', cn', ⟨_, rfl⟩, hi', hs2, hd'⟩
      obtain ⟨u1, u2, u3, u4⟩ := hi.unhide hL hi'
      have hK' : Kr X cn0 L w0 w' := ⟨Nat.le_trans hK.1 hi'.le, fun b hb hc => by
        rw [u3 b (Nat.lt_of_lt_of_le hb hK.1) (hc.imp (hF b hb) (fun ⟨id, hid, hc⟩ => ⟨id, hid, by rw [hC id hid]; exact hc⟩))]
        exact hK.2 b hb hc⟩
      refine ⟨hK', ih u1 (hs2.mono (Nat.le_refl _) (fun b _ hf => ⟨u2 b hf, rfl⟩) (fun _ _ => rfl) trivial (fun _ _ h => ⟨h, rfl⟩)) hd' hK' (fun b hb hf => u4 b (Nat.lt_of_lt_of_le hb hK.1) (hF b hb hf)) (fun id hid => ?_) hk⟩
      unfold cnU
      rw [if_pos hid]
      exact hC id hid
    show wpOp P ops Qf i _ a w
    unfold wpOp
    simp only [ho]
    unfold wpList at step
    split
    · rename_i hw
      rw [if_pos hw] at step
      rcases step with step | ⟨_, a', w', st2, m', cn', ⟨h0, _⟩, _⟩
      · exact .inl (wp_mono2 (fun a' w' h => fin a' w' h) (fun e a' w' hne ⟨st2, m', cn', ⟨h0, _⟩, _⟩ => absurd h0 hne) step)
      · cases h0
    · rename_i hw
      rw [if_neg hw] at step
      exact fin _ _ step

theorem W_tree {id n : Nat} {A : List Nat} {t : Tr} (hm : P.follows .mixedOrders = true) (hB : treeB .any ls.toArray n A t = true) (hT : TOK P T) {n0 : Nat} (hX : X.n0 = n0) (hA : runTk T n0 ls.toArray L A st = some s1)
    (hH : StepsT P ls.toArray L t s1 s2) (h2 : Runs P X ls.toArray (ls.drop n) s2 s3) (hq : Q .normal s3) : W P X (.region id ls.toArray true) st Q := by
  intro w m cn a hi hs hd
  have hi' : Inv X { w with drawn := w.drawn + 1 } st.ob m cn := hi.drew
  have hs' : Sl X { w with drawn := w.drawn + 1 } m cn st.tm a := Ext.drew.Sl hs
  have hob := runTk_ob hA
  refine Code.wp_mono (Q := normQ (post X Q)) (fun e a' w' h => ?_) ?_
  · cases e <;> first | exact h | exact h.elim
  refine wp_region_tree (S := Kr X cn L { w with drawn := w.drawn + 1 }) hm hB (fun _ _ _ h => h) (Kr.refl _) (runTk_okK hT hA hi' hs' hd fun a' hs2 hd2 => ?_)
  refine stepsT_ok hH (hob ▸ hi') hs2 hd2 (Kr.refl _) (fun _ _ h => h) (fun _ _ => rfl) (fun w3 m3 cn3 a3 hi3 hs3 hd3 => ?_)
  have := h2 [] (fun e s => e = .normal ∧ Q .normal s) (WL_nil ⟨rfl, hq⟩) w3 m3 cn3 a3 hi3 hs3 hd3
  rw [List.append_nil] at this
  refine wpList_mono2 (fun a w ⟨s, m, cn, ⟨_, h⟩, r⟩ => ⟨s, m, cn, h, r⟩) (fun e a w hne ⟨s, m, cn, ⟨h0, _⟩, _⟩ => absurd h0 hne) _ _ _ this

theorem W_tseqT {id : Nat} {y : Code} (n : Nat) (A : List Nat) (t : Tr) (ks : List Nat) (L : List Nat) (hm : P.follows .mixedOrders = true) (hB : treeB .any ls.toArray n A t = true) (hT : TOK P T) {n0 : Nat} (hX : X.n0 = n0) (hA : runTk T n0 ls.toArray L A st = some s1)
    (hH : StepsT P ls.toArray L t s1 s2) (h2 : Runs P X ls.toArray (ls.drop n) s2 s3) (hk : W P X y (s3.keep ks) Q) : W P X (.seq (.region id ls.toArray true) y) st Q :=
  W_seq (W_tree hm hB hT hX hA hH h2 (W_le (Le.keep ks s3) hk))
end
end Go.Ev
/-
  Reading: what the arguments of a law are, as abstract values.
-/
namespace Go.Ev
open Go Go.Deep

/-- kinds of cells -/
inductive Tc where
  | bool
  | int (k : IntKind)
  | str
  | lst (one : Bool) (cs : List Tc)

mutual
def okC : Tc → V → Prop
  | .bool, v => ∃ b, v = .bool b
  | .int k, v => ∃ n, v = .int k n ∧ (Lit.int k n).wf = true
  | .str, v => ∃ l, v = .str l ∧ l.length ≤ reachBytes
  | .lst one cs, v => ∃ xs, v = .lst false cs.length xs ∧ xs.length ≤ reachBytes ∧ ∀ x ∈ xs, if one = true then okL cs [x] else ∃ vs, x = .agg vs ∧ okL cs vs
def okL : List Tc → List V → Prop
  | [], [] => True
  | c :: cs, v :: vs => okC c v ∧ okL cs vs
  | _, _ => False
end

theorem okL_len : ∀ {cs : List Tc} {vs : List V}, okL cs vs → vs.length = cs.length
  | [], [], _ => rfl
  | _ :: _, _ :: _, h => by simp only [okL] at h; simp [okL_len h.2]
  | [], _ :: _, h => by simp [okL] at h
  | _ :: _, [], h => by simp [okL] at h

theorem okL_append : ∀ {cs ds : List Tc} {vs ws : List V}, okL cs vs → okL ds ws → okL (cs ++ ds) (vs ++ ws)
  | [], _, [], _, _, h => h
  | _ :: _, _, _ :: _, _, h, k => by simp only [okL, List.cons_append] at h ⊢; exact ⟨h.1, okL_append h.2 k⟩
  | [], _, _ :: _, _, h, _ => by simp [okL] at h
  | _ :: _, _, [], _, h, _ => by simp [okL] at h

theorem okC_cells {c : Tc} {v : V} (h : okC c v) : v.cells = [v] := by
  cases c <;> simp only [okC] at h
  · obtain ⟨b, rfl⟩ := h; rfl
  · obtain ⟨n, rfl, _⟩ := h; rfl
  · obtain ⟨l, rfl, _⟩ := h; rfl
  · obtain ⟨xs, rfl, _⟩ := h; rfl

theorem okL_flat : ∀ {cs : List Tc} {vs : List V}, okL cs vs → flat vs = vs
  | [], [], _ => rfl
  | _ :: _, _ :: _, h => by simp only [okL] at h; rw [flat_cons, okC_cells h.1, okL_flat h.2]; rfl
  | [], _ :: _, h => by simp [okL] at h
  | _ :: _, [], h => by simp [okL] at h

/-- an element: by itself, or a struct -/
def elV (one : Bool) (vs : List V) : V := if one = true then vs.headD .junk else .agg vs

theorem elV_cells {one : Bool} {cs : List Tc} {vs : List V} (h : okL cs vs) (h1 : one = true → cs.length = 1) : (elV one vs).cells = vs := by
  unfold elV
  split
  · rename_i ho
    have hl := okL_len h
    rw [h1 ho] at hl
    match vs, hl with
    | [v], _ =>
      match cs, h1 ho with
      | [c], _ => simp only [okL] at h; exact okC_cells h.1
  · rfl

/-- the fields of a struct -/
def shpF (P : Program) (f : TypeId → Option (Bool × List Tc)) : Nat → List Field → Option (List Tc)
  | _, [] => some []
  | off, g :: gs =>
    match f g.type, shpF P f (off + P.cellsOf g.type) gs with
    | some (_, cs), some ds => if g.offset = off ∧ P.cellsOf g.type = cs.length then some (cs ++ ds) else none
    | _, _ => none

/-- the kinds of a type's cells; is it one cell by itself? -/
def shpT (P : Program) : Nat → TypeId → Option (Bool × List Tc)
  | 0, _ => none
  | n + 1, t =>
    match P.underlying t with
    | some .bool => some (true, [.bool])
    | some (.int k) => some (true, [.int k])
    | some .string => some (true, [.str])
    | some (.slice e) => match shpT P n e with
      | some (one, cs) => if P.cellsOf e = cs.length ∧ 0 < cs.length ∧ 0 < P.bytesOf e ∧ (one = true → cs.length = 1) then some (true, [.lst one cs]) else none
      | none => none
    | some (.struct fs) => match shpF P (shpT P n) 0 fs.toList with
      | some cs => if P.cellsOf t = cs.length then some (false, cs) else none
      | none => none
    | _ => none

section
variable {H : Type} {enc : TypeId × Value → H} {P : Program} {w : World}

/-- what is read of cells -/
def RdOk (w : World) (cs : List Tc) (us : List Value) : Prop :=
  ∃ vs, okL cs vs ∧ (∀ u ∈ us, u.oneCell' = true) ∧ ∀ m, R w (fun b => b < w.heap.size) m (.list vs us) z0

theorem RdOk.append {cs ds : List Tc} {us vs : List Value} (h : RdOk w cs us) (k : RdOk w ds vs) : RdOk w (cs ++ ds) (us ++ vs) := by
  obtain ⟨a, h1, h2, h3⟩ := h
  obtain ⟨b, k1, k2, k3⟩ := k
  refine ⟨a ++ b, okL_append h1 k1, fun u hu => ?_, fun m => ?_⟩
  · rcases List.mem_append.1 hu with h | h
    · exact h2 u h
    · exact k2 u h
  · exact (R.ljoin (h3 m) (k3 m)).zero fun z => by simp [z0]

theorem R_cells {fr : Nat → Prop} {m : Mp} {b : Nat} : ∀ {vs : List V} {us : List Value} {off : Nat}, R w fr m (.list vs us) z0 → (∀ u ∈ us, u.oneCell' = true) → (∀ j u, us[j]? = some u → w.cell? ⟨b, off + j, none⟩ = some u) →
    R w fr m (.cells b off vs) z0
  | [], us, off, _, _, _ => .cnil
  | v :: vs, us, off, h, h1, hc => by
    generalize hz : z0 = c at h
    cases h with
    | lcons g1 g2 he =>
      rename_i u us' c1 c2
      subst hz
      have e1 : c1 = z0 := funext fun z => by have := he z; simp [z0] at *; omega
      have e2 : c2 = z0 := funext fun z => by have := he z; simp [z0] at *; omega
      subst e1; subst e2
      exact .ccons (by have := hc 0 u rfl; simpa using this) (h1 u (by simp)) g1 (R_cells g2 (fun x hx => h1 x (by simp [hx])) (fun j x hx => by have := hc (j + 1) x (by simpa using hx); rwa [show off + (j + 1) = off + 1 + j from by omega] at this)) (fun z => rfl)

theorem R_cells_append {fr : Nat → Prop} {m : Mp} {b : Nat} {xs ys : List V} {off : Nat} (h : R w fr m (.cells b off xs) z0) (k : R w fr m (.cells b (off + xs.length) ys) z0) : R w fr m (.cells b off (xs ++ ys)) z0 := by
  induction xs generalizing off with
  | nil => simpa using k
  | cons x xs ih =>
    generalize hz : z0 = c at h
    cases h with
    | ccons hc h1c h1 h2 he =>
      rename_i u c1 c2
      subst hz
      have e1 : c1 = z0 := funext fun z => by have := he z; simp [z0] at *; omega
      have e2 : c2 = z0 := funext fun z => by have := he z; simp [z0] at *; omega
      subst e1; subst e2
      exact .ccons hc h1c h1 (ih h2 (by rwa [List.length_cons, show off + (xs.length + 1) = off + 1 + xs.length from by omega] at k)) (fun z => rfl)

/-- many elements, one behind another -/
theorem R_elems {fr : Nat → Prop} {m : Mp} {b k : Nat} (f : Nat → V) : ∀ (n off : Nat), (∀ i, i < n → (f i).cells.length = k ∧ R w fr m (.cells b (off + i * k) (f i).cells) z0) → R w fr m (.cells b off (flat ((List.range n).map f))) z0
  | 0, off, _ => by simpa using R.cnil
  | n + 1, off, h => by
    rw [List.range_succ, List.map_append, flat_append]
    refine R_cells_append (R_elems f n off fun i hi => h i (by omega)) ?_
    have hu : uni k ((List.range n).map f) := fun x hx => by
      obtain ⟨i, hi, rfl⟩ := List.mem_map.1 hx
      exact (h i (by have := List.mem_range.1 hi; omega)).1
    rw [flat_length hu, List.length_map, List.length_range]
    simpa using (h n (by omega)).2

theorem weightsAll_mem {e : TypeId} {d : DataW H} : ∀ {ds : List (DataW H)}, d ∈ ds → ∀ x ∈ d.weights P e, x ∈ DataW.weightsAll P e ds
  | a :: r, h, x, hx => by
    simp only [DataW.weightsAll, List.mem_append]
    rcases List.mem_cons.1 h with rfl | h
    · exact .inl hx
    · exact .inr (weightsAll_mem h x hx)

theorem rd_ok (n : Nat) : ∀ {t : TypeId} {one : Bool} {cs : List Tc}, shpT P n t = some (one, cs) → ∀ {fuel : Nat} {us : List Value} {x : DataW H × List MemPlace},
    DataW.trod enc P w 0 (fun _ => true) true fuel t us = some x → (∀ y ∈ x.1.weights P t, y ≤ reachBytes) → us.length = cs.length ∧ RdOk w cs us := by
  induction n with
  | zero => intro t one cs h; simp [shpT] at h
  | succ n ih =>
    intro t one cs h fuel us x hx hw
    unfold shpT at h
    split at h
    · rename_i ht
      obtain ⟨b, rfl, rfl⟩ := DataW.trod_bool ht hx
      cases h
      exact ⟨rfl, [.bool b], ⟨⟨b, rfl⟩, trivial⟩, fun u hu => by simp at hu; subst hu; rfl, fun m => .lcons (.bool b) .lnil (fun _ => rfl)⟩
    · rename_i k ht
      obtain ⟨i, rfl, rfl, hwf⟩ := DataW.trod_int ht hx
      cases h
      exact ⟨rfl, [.int k i], ⟨⟨i, rfl, hwf⟩, trivial⟩, fun u hu => by simp at hu; subst hu; rfl, fun m => .lcons (.int k i) .lnil (fun _ => rfl)⟩
    · rename_i ht
      obtain ⟨s, rfl, rfl, hs⟩ := DataW.trod_string ht hx
      cases h
      refine ⟨rfl, [.str s.data.toList], ⟨⟨_, rfl, hw _ (by simp [DataW.weights])⟩, trivial⟩, fun u hu => by simp at hu; subst hu; rfl, fun m => .lcons ?_ .lnil (fun _ => rfl)⟩
      have : s = (⟨s.data.toList.toArray⟩ : ByteArray) := by cases s; simp
      have h2 : R w (fun b => b < w.heap.size) m (.one (.str s.data.toList) (.string ⟨s.data.toList.toArray⟩)) z0 := .str _
      rwa [← this] at h2
    · rename_i e ht
      split at h
      · rename_i one' cs' he
        split at h
        · rename_i hc
          obtain ⟨hc1, hc2, hc3, hc4⟩ := hc
          cases h
          rcases open_slice ht hx with ⟨rfl, rfl⟩ | ⟨a, len, cap, m, f2, D, Pl, rfl, hb, hl, hcm, hm, rfl, hel⟩
          · exact ⟨rfl, [.lst false cs'.length []], ⟨⟨[], rfl, Nat.zero_le _, fun x hx => by simp at hx⟩, trivial⟩, fun u hu => by simp at hu; subst hu; rfl, fun m => .lcons .nil .lnil (fun _ => rfl)⟩
          · simp only [if_true] at hm
            rw [hm] at hel hw
            clear hm
            have hw1 := hw ((len + (cap - len)) * P.bytesOf e) (by simp [DataW.weights, ht])
            have hlen : len ≤ reachBytes := by
              have : len * 1 ≤ (len + (cap - len)) * P.bytesOf e := Nat.mul_le_mul (by omega) hc3
              omega
            have hE : ∀ i, i < len → ∃ vs us, okL cs' vs ∧ us.length = cs'.length ∧ w.cells? 0 (a.add (i * P.cellsOf e)) (P.cellsOf e) = some us ∧ (∀ u ∈ us, u.oneCell' = true) ∧ ∀ m, R w (fun b => b < w.heap.size) m (.list vs us) z0 := by
              intro i hi
              obtain ⟨us, h1, h2⟩ := hel i (by omega)
              obtain ⟨g1, vs, g2, g3, g4⟩ := ih he h2 (fun y hy => hw y (by
                simp only [DataW.weights, ht, List.mem_cons, List.mem_append]
                exact .inr (.inl (weightsAll_mem (List.mem_map.2 ⟨i, List.mem_range.2 hi, rfl⟩) y hy))))
              exact ⟨vs, us, g2, g1, h1, g3, g4⟩
            rcases Nat.eq_zero_or_pos len with hl0 | hlp
            · subst hl0
              refine ⟨rfl, [.lst false cs'.length []], ⟨⟨[], rfl, Nat.zero_le _, fun x hx => by simp at hx⟩, trivial⟩, fun u hu => by simp at hu; subst hu; rfl, fun m => .lcons ?_ .lnil (fun _ => rfl)⟩
              rcases Nat.eq_zero_or_pos cap with hc0 | hcp
              · subst hc0; exact .nilz
              · obtain ⟨us, h1, _⟩ := hel 0 hcp
                obtain ⟨_, k1, k2⟩ := World.cells?_some h1
                have k3 := k2 0 (by omega)
                rw [List.getElem?_eq_getElem (by omega)] at k3
                have hsp := World.cell?_spot k3
                obtain ⟨ab, ao, asp⟩ := a
                simp [Addr.add] at hsp
                subst hsp
                simp [Addr.add] at k3
                exact .frz (xs := []) (lt_of_cell k3) (lt_of_cell k3) (fun x hx => by simp at hx) (by simp) .cnil
            · have hE2 : ∃ VS : Nat → List V, ∀ i, i < len → ∃ us, okL cs' (VS i) ∧ us.length = cs'.length ∧ w.cells? 0 (a.add (i * P.cellsOf e)) (P.cellsOf e) = some us ∧ (∀ u ∈ us, u.oneCell' = true) ∧ ∀ m, R w (fun b => b < w.heap.size) m (.list (VS i) us) z0 := by
                refine ⟨fun i => if h : i < len then (hE i h).choose else [], fun i hi => ?_⟩
                simp only [dif_pos hi]
                exact (hE i hi).choose_spec
              obtain ⟨VS, hVS⟩ := hE2
              obtain ⟨_, _, g1, g2, _⟩ := hVS 0 hlp
              obtain ⟨_, k1, k2⟩ := World.cells?_some g2
              have k3 := k2 0 (by omega)
              rw [List.getElem?_eq_getElem (by omega)] at k3
              have hsp := World.cell?_spot k3
              obtain ⟨ab, ao, asp⟩ := a
              simp [Addr.add] at hsp
              subst hsp
              simp [Addr.add] at k3
              have hlt := lt_of_cell k3
              have hxl : ((List.range len).map fun i => elV one' (VS i)).length = len := by simp
              refine ⟨rfl, [.lst false cs'.length ((List.range len).map fun i => elV one' (VS i))], ⟨⟨_, rfl, by rw [hxl]; exact hlen, fun x hx => ?_⟩, trivial⟩, fun u hu => by simp at hu; subst hu; rfl, fun m => .lcons ?_ .lnil (fun _ => rfl)⟩
              · obtain ⟨i, hi, rfl⟩ := List.mem_map.1 hx
                have hi := List.mem_range.1 hi
                obtain ⟨_, q1, _⟩ := hVS i hi
                unfold elV
                split
                · rename_i ho
                  have hl := okL_len q1
                  rw [hc4 ho] at hl
                  match hV : VS i, hl with
                  | [v], _ => rw [hV] at q1; exact q1
                · exact ⟨_, rfl, q1⟩
              · have hfin : R w (fun b => b < w.heap.size) noIds (.cells ab ao (flat ((List.range len).map fun i => elV one' (VS i)))) z0 := by
                  refine R_elems (k := cs'.length) _ len ao fun i hi => ?_
                  obtain ⟨us, q1, q2, q3, q4, q5⟩ := hVS i hi
                  rw [elV_cells q1 hc4]
                  refine ⟨okL_len q1, R_cells (q5 noIds) q4 fun j u hu => ?_⟩
                  obtain ⟨_, p1, p2⟩ := World.cells?_some q3
                  have hj := (List.getElem?_eq_some_iff.1 hu).1
                  have := p2 j (by omega)
                  rw [hu, hc1] at this
                  rw [add_add, add_none] at this
                  rwa [Nat.add_assoc]
                have := R.frz (m := m) (w := w) (fr := fun b => b < w.heap.size) (k := cs'.length) (xs := (List.range len).map fun i => elV one' (VS i)) (b := ab) (off := ao) (cap := cap) hlt hlt (fun x hx => by
                  obtain ⟨i, hi, rfl⟩ := List.mem_map.1 hx
                  have hi := List.mem_range.1 hi
                  obtain ⟨_, q1, _⟩ := hVS i hi
                  rw [elV_cells q1 hc4]; exact okL_len q1) (by rw [hxl]; exact hl) hfin
                rwa [hxl] at this
        · cases h
      · cases h
    · rename_i fs ht
      split at h
      · rename_i cs' hf
        split at h
        · rename_i hc
          cases h
          obtain ⟨xs, f2, _, rfl, hl, hlen, hel⟩ := DataW.trod_struct ht hx
          refine ⟨by rw [hl, hc], ?_⟩
          have key : ∀ (gs : List Field) (off : Nat) (cs : List Tc) (us : List Value) (ys : List (DataW H × List MemPlace)), shpF P (shpT P n) off gs = some cs → us.length = cs.length → ys.length = gs.length →
              (∀ (i : Nat) (f : Field), gs[i]? = some f → DataW.trod enc P w 0 (fun _ => true) true f2 f.type ((us.drop (f.offset - off)).take (P.cellsOf f.type)) = ys[i]?) → (∀ y ∈ DataW.weightsEach P (gs.map (·.type)) (ys.map (·.1)), y ≤ reachBytes) → RdOk w cs us := by
            intro gs
            induction gs with
            | nil =>
              intro off cs us ys h hu _ _ _
              simp [shpF] at h
              subst h
              have : us = [] := List.eq_nil_of_length_eq_zero (by simpa using hu)
              subst this
              exact ⟨[], trivial, fun u hu => by simp at hu, fun m => .lnil⟩
            | cons g gs ihg =>
              intro off cs us ys h hu hyl hys hwy
              simp only [shpF] at h
              split at h
              · rename_i o1 c1 c2 hg hgs
                split at h
                · rename_i hoff
                  cases h
                  match ys, hyl with
                  | y :: ys, hyl =>
                    have h0 := hys 0 g rfl
                    rw [hoff.1, Nat.sub_self, List.drop_zero] at h0
                    simp only [List.map_cons, DataW.weightsEach, List.mem_append] at hwy
                    obtain ⟨q1, q2⟩ := ih hg h0 (fun z hz => hwy z (.inl hz))
                    have hle : ∀ (i : Nat) (f : Field), gs[i]? = some f → off + P.cellsOf g.type ≤ f.offset := by
                      have : ∀ (gs : List Field) (o : Nat) (cs : List Tc), shpF P (shpT P n) o gs = some cs → ∀ (i : Nat) (f : Field), gs[i]? = some f → o ≤ f.offset := by
                        intro gs
                        induction gs with
                        | nil => intro o cs _ i f hf; simp at hf
                        | cons g gs ih2 =>
                          intro o cs h i f hf
                          simp only [shpF] at h
                          split at h
                          · rename_i a1 a2 a3 a4 a5
                            split at h
                            · rename_i hh
                              cases i with
                              | zero => simp at hf; subst hf; omega
                              | succ i => have := ih2 _ _ a5 i f (by simpa using hf); omega
                            · cases h
                          · cases h
                      exact fun i f hf => this gs _ _ hgs i f hf
                    have hrest := ihg (off + P.cellsOf g.type) c2 (us.drop (P.cellsOf g.type)) ys hgs (by rw [List.length_drop, hu, List.length_append]; omega) (by simpa using hyl) (fun i f hf => by
                      have := hys (i + 1) f (by simpa using hf)
                      rw [List.getElem?_cons_succ] at this
                      rw [← this, List.drop_drop]
                      have := hle i f hf
                      congr 3
                      omega) (fun z hz => hwy z (.inr hz))
                    have := q2.append hrest
                    rwa [List.take_append_drop] at this
                · cases h
              · cases h
          exact key fs.toList 0 _ us xs hf (by rw [hl, hc]) (by simpa using hlen) (fun i f hf => by
            have := hel i f (by simpa using hf)
            simpa using this) (fun y hy => hw y (by simp only [DataW.weights, ht]; exact hy))
        · cases h
      · cases h
    · cases h

/-- the arguments -/
def shpA (P : Program) (n : Nat) : List TypeId → Option (List (Bool × List Tc))
  | [] => some []
  | t :: ts => match shpT P n t, shpA P n ts with
    | some x, some xs => some (x :: xs)
    | _, _ => none

def okA : List (Bool × List Tc) → List V → Prop
  | [], [] => True
  | x :: r, v :: vs => (if x.1 = true then okL x.2 [v] else ∃ ws, v = .agg ws ∧ okL x.2 ws) ∧ okA r vs
  | _, _ => False

open WideShapes ChangeShapes in
theorem shpT_form {n : Nat} {t : TypeId} {one : Bool} {cs : List Tc} (h : shpT P n t = some (one, cs)) {r : Reach} {base : Nat} {v : Value} (hv : Value.okWide P w r base t v) :
    (one = true ∧ v.cells.toList = [v] ∧ cs.length = 1) ∨ (one = false ∧ ∃ us, v = .agg us) := by
  cases n with
  | zero => simp [shpT] at h
  | succ n =>
    unfold shpT at h
    split at h
    · rename_i ht; cases h; obtain ⟨b, rfl⟩ := okWide_bool ht hv; exact .inl ⟨rfl, rfl, rfl⟩
    · rename_i k ht; cases h; obtain ⟨b, rfl⟩ := okWide_int ht hv; exact .inl ⟨rfl, rfl, rfl⟩
    · rename_i ht; cases h; obtain ⟨b, rfl⟩ := okWide_string ht hv; exact .inl ⟨rfl, rfl, rfl⟩
    · rename_i e ht
      obtain ⟨a, len, cap, rfl⟩ := okWide_slice ht hv
      split at h
      · split at h
        · cases h; exact .inl ⟨rfl, rfl, rfl⟩
        · cases h
      · cases h
    · rename_i fs ht
      obtain ⟨us, rfl, _⟩ := okWide_struct ht hv
      split at h
      · split at h
        · cases h; exact .inr ⟨rfl, us, rfl⟩
        · cases h
      · cases h
    · cases h

theorem rdA_ok {n : Nat} {r : Reach} {base : Nat} : ∀ {ts : List TypeId} {css : List (Bool × List Tc)}, shpA P n ts = some css → ∀ {args : List Value} {ds : List (DataW H)} {p : List MemPlace},
    DataW.TrodAll enc P w 0 (fun _ => true) true ts args ds p → (∀ (j : Nat) t v, ts[j]? = some t → args[j]? = some v → Value.okWide P w r base t v) → (∀ y ∈ DataW.weightsEach P ts ds, y ≤ reachBytes) →
    ∃ vs, okA css vs ∧ ∀ m, R w (fun b => b < w.heap.size) m (.list vs args) z0
  | [], css, h, args, ds, p, hA, _, _ => by
    simp [shpA] at h
    subst h
    obtain ⟨rfl, rfl, rfl⟩ := ChangeShapes.trodAll_nil hA
    exact ⟨[], trivial, fun m => .lnil⟩
  | t :: ts, css, h, args, ds, p, hA, hv, hw => by
    obtain ⟨v, vs, d, ds', a, b, rfl, rfl, rfl, h1, h2⟩ := ChangeShapes.trodAll_cons hA
    simp only [shpA] at h
    split at h
    · rename_i x xs hx hxs
      cases h
      obtain ⟨one, cs⟩ := x
      simp only [DataW.weightsEach, List.mem_append] at hw
      obtain ⟨ws, k1, k2⟩ := rdA_ok hxs h2 (fun j t v ht hv' => hv (j + 1) t v (by simpa using ht) (by simpa using hv')) (fun y hy => hw y (.inr hy))
      obtain ⟨fuel, hf⟩ := h1
      obtain ⟨g0, us, g1, g2, g3⟩ := rd_ok n hx hf (fun y hy => hw y (.inl hy))
      rcases shpT_form hx (hv 0 t v rfl rfl) with ⟨rfl, hc, hl⟩ | ⟨rfl, us', rfl⟩
      · rw [hc] at g3
        have hlu := okL_len g1
        rw [hl] at hlu
        match us, hlu with
        | [u], _ =>
          refine ⟨u :: ws, ⟨g1, k1⟩, fun m => ?_⟩
          have := (R.ljoin (g3 m) (k2 m)).zero fun z => by simp [z0]
          exact this
      · refine ⟨.agg us :: ws, ⟨⟨us, rfl, g1⟩, k1⟩, fun m => .lcons ?_ (k2 m) (fun _ => rfl)⟩
        have := R.agg (g3 m)
        simpa [Value.cells] using this
    · cases h

/-- a law returns true, and leaves all as it was -/
theorem law_calls {f : FuncId} {fn : Func} {s : ChangeSpec} {fresh handsOn again : Bool} {W : World} {base : Nat} {args : Array Value} {ds gs : List (DataW H)} {before : List MemPlace} {tb : TypeId} {n : Nat} {css : List (Bool × List Tc)}
    (hl : laidOutB P = true) (hpar : (fn.params.toList.all fun t => P.readableRec t && decide (t < P.types.size)) = true)
    (hv : s.vars = []) (hres : fn.resultTypes = #[tb]) (htb : P.underlying tb = some .bool)
    (hfn : ∀ ds : List (DataW H), ds.length = fn.params.size → s.fn H (ds ++ []) = ⟨[.lit (.bool true)], ds, []⟩)
    (hsh : shpA P n fn.params.toList = some css)
    (hval : ∀ (j : Nat) t v, fn.params[j]? = some t → args[j]? = some v → Value.okWide P W .any base t v)
    (hW : DataW.Whole enc P fn.params.toList s.vars false W args.toList ds gs before)
    (hw : (DataW.weightsEach P (fn.params.toList ++ s.plain.varTypes P) (ds ++ gs)).all (· ≤ reachBytes) = true)
    (hct : ∀ vs, okA css vs → Ct P f vs [] (.bool true) []) :
    Calls P f args W fun e W' => ∃ v, e = .returned v ∧ s.post enc P fn false fresh handsOn again W args v W' := by
  have hW0 := hW
  obtain ⟨p, q, hA, hV, rfl, hfz, hap⟩ := hW
  rw [hv] at hV
  obtain ⟨rfl, rfl⟩ := ChangeShapes.trodVars_none hV
  have hlt : ∀ x ∈ p, x.block < W.heap.size := fun x hx => by simpa using hW0.lt x (by simpa using hx)
  have hlen : ∀ {ts : List TypeId} {vs : List Value} {ds : List (DataW H)} {p : List MemPlace}, DataW.TrodAll enc P W 0 (fun _ => true) true ts vs ds p → ds.length = ts.length := by
    intro ts
    induction ts with
    | nil => intro vs ds p h; obtain ⟨_, rfl, _⟩ := ChangeShapes.trodAll_nil h; rfl
    | cons t ts ih => intro vs ds p h; obtain ⟨_, _, _, _, _, _, _, rfl, _, _, h2⟩ := ChangeShapes.trodAll_cons h; simp [ih h2]
  have hwe : ∀ {ts us : List TypeId} {vs : List Value} {ds : List (DataW H)} {p : List MemPlace}, DataW.TrodAll enc P W 0 (fun _ => true) true ts vs ds p → DataW.weightsEach P (ts ++ us) (ds ++ []) = DataW.weightsEach P ts ds := by
    intro ts
    induction ts with
    | nil => intro us vs ds p h; obtain ⟨_, rfl, _⟩ := ChangeShapes.trodAll_nil h; cases us <;> rfl
    | cons t ts ih => intro us vs ds p h; obtain ⟨_, _, _, _, _, _, _, rfl, _, _, h2⟩ := ChangeShapes.trodAll_cons h; simp only [List.cons_append, DataW.weightsEach]; rw [ih h2]
  obtain ⟨vs, h1, h2⟩ := rdA_ok hsh hA (fun j t v ht hv => hval j t v (by simpa using ht) (by simpa using hv)) (fun y hy => by
    rw [hwe hA, List.all_eq_true] at hw
    simpa using hw y hy)
  have hfr : ∀ b, b < W.heap.size → frz ⟨W, fun b => b < W.heap.size, fun b => ∃ id : Nat, 0 < (fun (_ : Nat) => z0) id b, noIds, 0⟩ (fun _ => z0) b := fun b hb => ⟨.inl hb, fun _ => rfl⟩
  have hinv : Inv ⟨W, fun b => b < W.heap.size, fun b => ∃ id : Nat, 0 < (fun (_ : Nat) => z0) id b, noIds, 0⟩ W [] noIds (fun _ => z0) :=
    ⟨Nat.le_refl _, fun _ _ _ => rfl, rfl, rfl, rfl, fun id o h => by simp at h, fun b i j h => by simp [z0] at h, fun i b => Nat.zero_le _, fun i b h => by simp [z0] at h, fun _ _ => rfl, fun _ _ => rfl, fun _ _ h => by simp [noIds] at h, Nat.le_refl _, fun _ _ => rfl⟩
  have hcall := hct vs h1 W (fun b => b < W.heap.size) noIds (fun _ => z0) args.toList (fun b hb => ⟨hb, fun _ => rfl⟩) hinv
    ((h2 noIds).mono (Nat.le_refl _) (fun b hb _ => ⟨hfr b hb, rfl⟩) (fun _ _ => rfl) trivial (fun id x h => by simp [noIds] at h))
  rw [Array.toArray_toList] at hcall
  refine Calls.mono hcall ?_
  rintro e W' ⟨u, m', cn', d, rfl, hi, hR, _⟩
  have hu := R.inv_bool hR
  subst hu
  have hb : RowKit.Below W.heap.size W W' := ⟨hi.os, hi.tape, hi.output, hi.le, fun k hk => hi.kept k hk (by rintro ⟨_, h⟩; simp [z0] at h)⟩
  refine ⟨.bool true, rfl, ?_⟩
  have hps := hfn ds (by rw [hlen hA]; simp)
  have hargs : ∀ sp : Nat → Bool, (∀ b, b < W.heap.size → sp b = true) → DataW.TrodAll enc P W' 0 sp true fn.params.toList args.toList ds p := by
    intro sp hsp
    have key : ∀ {ts : List TypeId} {vs : List Value} {ds : List (DataW H)} {p : List MemPlace}, (ts.all fun t => P.readableRec t && decide (t < P.types.size)) = true → (∀ x ∈ p, x.block < W.heap.size) → DataW.TrodAll enc P W 0 (fun _ => true) true ts vs ds p →
        DataW.TrodAll enc P W' 0 sp true ts vs ds p := by
      intro ts
      induction ts with
      | nil => intro vs ds p _ _ h; obtain ⟨rfl, rfl, rfl⟩ := ChangeShapes.trodAll_nil h; rfl
      | cons t ts ih =>
        intro vs ds p hall hlt h
        obtain ⟨v, vs, d, ds', a, b, rfl, rfl, rfl, g1, g2⟩ := ChangeShapes.trodAll_cons h
        simp only [List.all_cons, Bool.and_eq_true, decide_eq_true_eq] at hall
        refine ⟨a, b, ?_, ih hall.2 (fun x hx => hlt x (List.mem_append_right _ hx)) g2, rfl⟩
        exact WideElems.Trod_stays hl hall.1.1 hall.1.2 g1 (fun x hx => hb.same (hlt x (List.mem_append_left _ hx))) (fun x hx => hsp _ (hlt x (List.mem_append_left _ hx)))
    exact key hpar hlt hA
  have hresd : ∀ (b : Nat) (sp : Nat → Bool) (hd : Bool), DataW.TrodAll enc P W' b sp hd fn.resultTypes.toList ((Value.bool true).resultList fn.resultTypes.size) [.lit (.bool true)] [] := by
    intro b sp hd
    rw [hres]
    exact ChangeShapes.trodAll_mk1 (RowKit.shut_bool htb true)
  refine ⟨ds, [], p ++ [], [], p, [], hW0, by rw [hps]; exact hresd _ _ _, by rw [hps]; exact hargs _ (fun b hb => by simpa using hb), by rw [hps, hv]; rfl, World.keptBut_mono (fun x hx => ⟨by simpa using hx, .inr (.inl hx)⟩) (hb.frame _), fun _ => ⟨?_, ?_⟩⟩
  · exact RowKit.ok_one hres rfl (RowKit.okWide_bool_mk htb true)
  · refine ⟨.lit (.bool true) :: ds, [], p ++ [], ⟨p, [], ?_, by rw [hv]; rfl, rfl, ?_, fun h => by cases h⟩, fun x hx _ => hx⟩
    · have := ChangeShapes.trodAll_append (hargs (fun _ => true) (fun _ _ => rfl)) (hresd 0 (fun _ => true) true)
      simpa using this
    · intro b off hx
      have hb2 := hlt (.cell b off) (by simpa using hx)
      have := hfz b off hx
      rw [← this]
      exact hb.frozen hb2
end
end Go.Ev
namespace Go.Ev
open Go
/-- the closed facts of a row, one by one (so that each is reckoned by itself) -/
theorem joined_of {P : Program} {f : FuncId} {fn : Func} {s : ChangeSpec} {c : OpenClaim}
    (h1 : c.wf (OpenSpec.ofChange s) = true) (h2 : laidOutB P = true) (h3 : mapsRowed P = true)
    (h4 : fn.params.all (P.readableRec ·) = true) (h5 : namedTie P c.named s.vars = true)
    (h6 : ((c.stops == []) && (P.stops == []) && (c.knobs == []) && (P.stopKnobs == [])) = true)
    (h7 : (c.inPlace == P.inPlace f) = true) (h8 : (c.unfollowed == P.unfollowed f) = true) (h9 : (c.recurses == P.recurses f) = true) (h10 : (c.named == P.varsNamed f) = true)
    (h11 : (c.maps == (fn.params.toList ++ s.plain.varTypes P).any (P.mapsRec ·)) = true) (h12 : (c.ifaces == (fn.params.toList ++ s.plain.varTypes P).any (P.ifacesRec ·)) = true) (h13 : (c.mapsOut == P.mapsAmong fn.resultTypes.toList) = true)
    (h14 : (c.loops == (fn.params.toList ++ s.plain.varTypes P).any (P.loopsFrom ·)) = true) (h15 : (c.wideKeys == (fn.params.toList ++ s.plain.varTypes P ++ fn.resultTypes.toList).any (P.wideKeysFrom ·)) = true)
    (h16 : s.vars.all (P.varReadable ·) = true) (h17 : fn.resultTypes.all (fun t => P.readableRec t && decide (t < P.types.size)) = true) (h18 : (c.ifacesOut == fn.resultTypes.toList.any (P.ifacesRec ·)) = true)
    (h19 : (c.loopsOut == fn.resultTypes.toList.any (P.loopsFrom ·)) = true) (h20 : (c.plainKeys == P.plainKeys) = true) (h21 : (c.shortTexts.isNone && P.stopsHeard) = true) (h21b : P.mayEnter = true) (h22 : (c.lifted == P.liftsFinal) = true)
    (h23 : (P.make == some c.make) = true) (h24 : c.domain = [] ∧ c.kinds = []) (h25 : (c.pinned == c.pinnedBy) = true)
    (h26 : (c.veiled == (fn.params.toList ++ s.plain.varTypes P ++ fn.resultTypes.toList).any (P.veiledRec ·)) = true) (h27 : c.veiledFits P fn.params.toList (fn.params.toList ++ s.plain.varTypes P ++ fn.resultTypes.toList) = true) :
    joinedFacts P f fn s c = true := by
  simp only [Bool.and_eq_true] at h6 h21
  unfold joinedFacts
  rw [h24.1, h24.2]
  rw [h1, h2, h3, h4, h5, h6.1.1.1, h6.1.1.2, h6.1.2, h6.2, h7, h8, h9, h10, h11, h12, h13, h14, h15, h16, h17, h18, h19, h20, h21.1, h21.2, h21b, h22, h23, h25, h26, h27]
  rfl
end Go.Ev
/-! A region that draws its order: operations that only read and may come at any time from now on, and between them those that are ready alone. -/
namespace Go.Ev
open Go

/-- what comes: an operation that only reads and may come at any time from now on, or the one that alone is ready -/
inductive It where
  | pur (i : Nat)
  | one (i : Nat)

section
variable {P : Program} {ops : Array Oper} {Q : Exit → Act → World → Prop}

theorem wpAnyT_S {md : Region.Mode} {S S' : World → Prop} {n : Nat} (hS : ∀ w, S' w → S w) : ∀ (f : Nat) (listed : Array Bool) (a : Act) (w : World), wpAnyT P md ops Q S' n f listed a w → wpAnyT P md ops Q S n f listed a w
  | 0, _, _, _, h => h
  | f + 1, _, _, _, h => ⟨h.1, fun i hi => wpOp_mono (fun a' w' h' => ⟨fun ht => hS _ (h'.1 ht), wpAnyT_S hS f _ a' w' h'.2⟩) (h.2 i hi)⟩

def itB (md : Region.Mode) (ops : Array Oper) (n : Nat) : List It → Array Bool → Bool
  | .pur i :: r, listed => decide (i < n) && (Region.ready md ops listed).contains i && Region.free md ops listed i && itB md ops n r (listed.setIfInBounds i true)
  | .one i :: r, listed => decide (i < n) && decide (Region.ready md ops listed = [i]) && itB md ops n r (listed.setIfInBounds i true)
  | [], listed => Region.seqB md ops (ops.size - n) n listed
def itsB (md : Region.Mode) (ops : Array Oper) (n : Nat) (l : List It) : Bool :=
  Region.noSelect ops && decide (n < ops.size) && Region.sinkB md ops n && Region.chainB md ops n && decide (l.length = n) && itB md ops n l (Array.replicate ops.size false)

def HeadI (P : Program) (ops : Array Oper) (Q : Exit → Act → World → Prop) (n : Nat) : List It → (World → Prop) → Act → World → Prop
  | .pur i :: r, S, a, w => ∃ oi v, ops[i]? = some oi ∧ YieldsIf P ops S oi v a ∧ HeadI P ops Q n r S (a.put oi.dst v) w
  | .one i :: r, S, a, w => wpOp P ops Q i (fun a' w' => ∃ S' : World → Prop, (∀ x, S' x → S x) ∧ S' w' ∧ HeadI P ops Q n r S' a' w') a w
  | [], _, a, w => wpList P ops Q (ops.toList.drop n) a w

theorem wpAnyT_it {md : Region.Mode} {n : Nat} (hsel : Region.noSelect ops = true) (hn : n < ops.size) (hs : Region.sinkB md ops n = true) (hc : Region.chainB md ops n = true) (hQ : ∀ c a w, ¬ Q (.panic c) a w) :
    ∀ (l : List It) (S : World → Prop) (listed : Array Bool) (a : Act) (w : World), HeadInv md ops n listed → S w → itB md ops n l listed = true → HeadI P ops Q n l S a w →
      wpAnyT P md ops Q S n (l.length + (ops.size - n)) listed a w
  | .pur i :: r, S, listed, a, w, inv, hS, hB, ⟨oi, v, hi, hy, h⟩ => by
    simp only [itB, Bool.and_eq_true, decide_eq_true_eq] at hB
    obtain ⟨⟨⟨hin, hr⟩, hf⟩, hB⟩ := hB
    have hr' : i ∈ Region.ready md ops listed := by simpa using hr
    have := wpAnyT_it hsel hn hs hc hQ r S _ _ _ (inv.set hr' hin) hS hB h
    rw [show (It.pur i :: r).length + (ops.size - n) = (r.length + (ops.size - n)) + 1 from by simp; omega]
    exact wpAnyT_first hi (Region.noSelect_spec hsel) hs hc hn hin hQ _ listed a w inv (Region.free_spec hi hf) hr' hy hS this
  | .one i :: r, S, listed, a, w, inv, hS, hB, h => by
    simp only [itB, Bool.and_eq_true, decide_eq_true_eq] at hB
    obtain ⟨⟨hin, hr⟩, hB⟩ := hB
    rw [show (It.one i :: r).length + (ops.size - n) = (r.length + (ops.size - n)) + 1 from by simp; omega]
    refine ⟨fun h0 => (by rw [hr] at h0; cases h0), fun j hj => ?_⟩
    have hmem := hj
    rw [hr] at hj
    have hji : j = i := by simpa using hj
    subst hji
    have h : wpOp P ops Q j (fun a' w' => ∃ S' : World → Prop, (∀ x, S' x → S x) ∧ S' w' ∧ HeadI P ops Q n r S' a' w') a w := h
    exact wpOp_mono (fun a' w' ⟨S', h1, h2, h3⟩ => ⟨fun _ => h1 _ h2, wpAnyT_S h1 _ _ _ _ (wpAnyT_it hsel hn hs hc hQ r S' _ _ _ (inv.set hmem hin) h2 hB h3)⟩) h
  | [], S, listed, a, w, inv, hS, hB, h => by
    simp only [itB] at hB
    have h : wpList P ops Q (ops.toList.drop n) a w := h
    have hlen : (ops.toList.drop n).length = ops.size - n := by simp
    have := wpAnyT_tail (P := P) (Q := Q) (md := md) (S := S) (n := n) (ops.toList.drop n) n listed a w (Nat.le_refl _) (fun j => by simp) (fun h => by omega) inv.size (by rw [hlen]; exact hB) h
    rw [hlen] at this
    simpa using this

theorem wp_region_its {id : Nat} {S : World → Prop} {n : Nat} {l : List It} {a : Act} {w : World} (hm : P.follows .mixedOrders = true) (hB : itsB .any ops n l = true) (hQ : ∀ c a w, ¬ Q (.panic c) a w)
    (hS : S { w with drawn := w.drawn + 1 }) (h : HeadI P ops Q n l S a { w with drawn := w.drawn + 1 }) : (Code.region id ops true).wp P Q a w := by
  simp only [itsB, Bool.and_eq_true, decide_eq_true_eq] at hB
  obtain ⟨⟨⟨⟨⟨hsel, hn⟩, hs⟩, hc⟩, hAB⟩, hhead⟩ := hB
  have inv0 : HeadInv .any ops n (Array.replicate ops.size false) :=
    ⟨by simp, fun j oj _ hl => (by rw [getD_replicate_false] at hl; cases hl), fun t _ ht => getD_in (by simpa using ht) (getD_replicate_false _ _)⟩
  have := wpAnyT_it hsel hn hs hc hQ l S _ _ _ inv0 hS hhead h
  rw [show l.length + (ops.size - n) = ops.size from by omega] at this
  exact wp_region_any hm (wpAny_of_T _ _ _ _ this)
end

section
variable {P : Program} {X : Ctx} {st s1 s2 s3 : St} {Q : Exit → St → Prop} {T : Nat → Option TI} {ls : List Oper} {L : List Nat}

theorem runTk_okI (hT : TOK P T) {n0 n : Nat} {ops : Array Oper} {Qf : Exit → Act → World → Prop} {r : List It} {w : World} {m : Mp} {cn : Nat → Cnt} :
    ∀ {A : List Nat} {st s1 : St} {a : Act}, runTk T n0 ops L A st = some s1 → Inv X w st.ob m cn → Sl X w m cn st.tm a → a.defers = [] →
      (∀ a', Sl X w m cn s1.tm a' → a'.defers = [] → HeadI P ops Qf n r (Kr X cn L w) a' w) → HeadI P ops Qf n (A.map It.pur ++ r) (Kr X cn L w) a w
  | [], st, s1, a, h, hi, hs, hd, hk => by simp only [runTk] at h; cases h; exact hk a hs hd
  | i :: A, st, s1, a, h, hi, hs, hd, hk => by
    simp only [runTk] at h
    split at h
    · cases h
    · rename_i o ho
      split at h
      · rename_i hg
        split at h
        · rename_i hp
          split at h
          · rename_i x st' hx
            obtain ⟨u, hu, hR⟩ := (opB_okp (X := X) (L := L) hT hx hp.1 hp.2).1 w m cn a hi hs
            refine ⟨o, u, ho, .inl ⟨gd_ok hs hg, hu⟩, runTk_okI hT h hi ?_ (put_defers _ _ hd) hk⟩
            have := hs.set o.dst hR
            cases hod : o.dst <;> simpa [setD, hod] using this
          · cases h
        · cases h
      · rename_i hg
        refine ⟨o, undef, ho, .inr ⟨gd_ok hs hg, rfl⟩, runTk_okI hT h hi ?_ (put_defers _ _ hd) hk⟩
        have := hs.set o.dst (x := .tup []) (u := undef) (.tup .lnil)
        cases hod : o.dst <;> simpa [setD, hod] using this
      · cases h

/-- what comes, the objects L out of reach meanwhile -/
inductive StepsI (P : Program) (T : Nat → Option TI) (n0 : Nat) (ops : Array Oper) (L : List Nat) : List It → St → St → Prop
  | nil {s : St} : StepsI P T n0 ops L [] s s
  | pur {A : List Nat} {l r : List It} {s s1 s2 : St} (h : runTk T n0 ops L A s = some s1) (he : l = A.map It.pur ++ r) (k : StepsI P T n0 ops L r s1 s2) : StepsI P T n0 ops L l s s2
  | one {i : Nat} {o : Oper} {r : List It} {s s' s1 s2 : St} (ho : ops[i]? = some o) (hL : ∀ id ∈ L, id < s.ob.length)
      (h : ∀ X' : Ctx, X'.n0 = s.ob.length → Runs P X' ops [o] ⟨s.tm, hid L s.ob⟩ s') (he : (⟨s'.tm, unh s.ob L s'.ob⟩ : St) = s1) (k : StepsI P T n0 ops L r s1 s2) : StepsI P T n0 ops L (.one i :: r) s s2

theorem stepsI_ok (hT : TOK P T) {n n0 : Nat} {ops : Array Oper} {Qf : Exit → Act → World → Prop} {l : List It} (h : StepsI P T n0 ops L l st s1) :
    ∀ {w : World} {m : Mp} {cn : Nat → Cnt} {a : Act}, Inv X w st.ob m cn → Sl X w m cn st.tm a → a.defers = [] →
      (∀ w m cn a, Inv X w s1.ob m cn → Sl X w m cn s1.tm a → a.defers = [] → wpList P ops Qf (ops.toList.drop n) a w) → HeadI P ops Qf n l (Kr X cn L w) a w := by
  induction h with
  | nil => intro w m cn a hi hs hd hk; exact hk w m cn a hi hs hd
  | @pur A l r s s1 s2 h he k ih =>
    intro w m cn a hi hs hd hk
    subst he
    exact runTk_okI hT h hi hs hd fun a' hs2 hd2 => ih (runTk_ob h ▸ hi) hs2 hd2 hk
  | @one i o r s s' s1 s2 ho hL h he k ih =>
    intro w m cn a hi hs hd hk
    subst he
    obtain ⟨h1, h2⟩ := hi.hide L
    have hs' : Sl (ctxH X w m cn L s.ob.length) w m (cnH L cn) s.tm a := hs.mono (Nat.le_refl _) (fun b hb hf => ⟨h2 b hb hf, rfl⟩) (fun _ _ => rfl) trivial (fun _ _ h => ⟨h, rfl⟩)
    have hr := h (ctxH X w m cn L s.ob.length) rfl [] (fun e st => e = .normal ∧ st = s') (WL_nil ⟨rfl, rfl⟩) w m (cnH L cn) a h1 hs' hd
    have step : wpList P ops (post (ctxH X w m cn L s.ob.length) (fun e st => e = .normal ∧ st = s')) [o] a w := hr
    have fin : ∀ a' w', post (ctxH X w m cn L s.ob.length) (fun e st => e = .normal ∧ st = s') .normal a' w' → ∃ S' : World → Prop, (∀ x, S' x → Kr X cn L w x) ∧ S' w' ∧ HeadI P ops Qf n r S' a' w' := by
      rintro a' w' ⟨st2, m', cn', ⟨_, rfl⟩, hi', hs2, hd'⟩
      obtain ⟨u1, u2, u3, u4⟩ := hi.unhide hL hi'
      refine ⟨Kr X (cnU L cn cn') L w', fun x hx => ⟨Nat.le_trans hi'.le hx.1, fun b hb hc => ?_⟩, Kr.refl _,
        ih u1 (hs2.mono (Nat.le_refl _) (fun b _ hf => ⟨u2 b hf, rfl⟩) (fun _ _ => rfl) trivial (fun _ _ h => ⟨h, rfl⟩)) hd' hk⟩
      rw [hx.2 b (Nat.lt_of_lt_of_le hb hi'.le) (hc.imp (u4 b hb) (fun ⟨id, hid, hc⟩ => ⟨id, hid, by unfold cnU; rw [if_pos hid]; exact hc⟩)), u3 b hb hc]
    show wpOp P ops Qf i _ a w
    unfold wpOp
    simp only [ho]
    unfold wpList at step
    split
    · rename_i hw
      rw [if_pos hw] at step
      rcases step with step | ⟨_, a', w', st2, m', cn', ⟨h0, _⟩, _⟩
      · exact .inl (wp_mono2 (fun a' w' h => fin a' w' h) (fun e a' w' hne ⟨st2, m', cn', ⟨h0, _⟩, _⟩ => absurd h0 hne) step)
      · cases h0
    · rename_i hw
      rw [if_neg hw] at step
      exact fin _ _ step

theorem W_its {id n : Nat} {l : List It} (hm : P.follows .mixedOrders = true) (hB : itsB .any ls.toArray n l = true) (hT : TOK P T) {n0 : Nat} (hX : X.n0 = n0)
    (hH : StepsI P T n0 ls.toArray L l st s2) (h2 : Runs P X ls.toArray (ls.drop n) s2 s3) (hq : Q .normal s3) : W P X (.region id ls.toArray true) st Q := by
  intro w m cn a hi hs hd
  have hi' : Inv X { w with drawn := w.drawn + 1 } st.ob m cn := hi.drew
  have hs' : Sl X { w with drawn := w.drawn + 1 } m cn st.tm a := Ext.drew.Sl hs
  refine Code.wp_mono (Q := normQ (post X Q)) (fun e a' w' h => ?_) ?_
  · cases e <;> first | exact h | exact h.elim
  refine wp_region_its (S := Kr X cn L { w with drawn := w.drawn + 1 }) hm hB (fun _ _ _ h => h) (Kr.refl _) ?_
  refine stepsI_ok hT hH hi' hs' hd (fun w3 m3 cn3 a3 hi3 hs3 hd3 => ?_)
  have := h2 [] (fun e s => e = .normal ∧ Q .normal s) (WL_nil ⟨rfl, hq⟩) w3 m3 cn3 a3 hi3 hs3 hd3
  rw [List.append_nil] at this
  refine wpList_mono2 (fun a w ⟨s, m, cn, ⟨_, h⟩, r⟩ => ⟨s, m, cn, h, r⟩) (fun e a w hne ⟨s, m, cn, ⟨h0, _⟩, _⟩ => absurd h0 hne) _ _ _ this

theorem W_iseqK {id : Nat} {y : Code} (n : Nat) (l : List It) (ks : List Nat) (L : List Nat) (hm : P.follows .mixedOrders = true) (hB : itsB .any ls.toArray n l = true) (hT : TOK P T) {n0 : Nat} (hX : X.n0 = n0)
    (hH : StepsI P T n0 ls.toArray L l st s2) (h2 : Runs P X ls.toArray (ls.drop n) s2 s3) (hk : W P X y (s3.keep ks) Q) : W P X (.seq (.region id ls.toArray true) y) st Q :=
  W_seq (W_its hm hB hT hX hH h2 (W_le (Le.keep ks s3) hk))
end
end Go.Ev
/-! A region that draws its order, nothing out of reach: operations that read no object may come at any time from now on; of the others one or two are ready. -/
namespace Go.Ev
open Go

inductive Ti where
  | tail
  | pur (i : Nat) (t : Ti)
  | one (i : Nat) (t : Ti)
  | two (i j : Nat) (t u : Ti)

section
variable {P : Program} {ops : Array Oper} {Q : Exit → Act → World → Prop}

def tiB (md : Region.Mode) (ops : Array Oper) (n : Nat) : Ti → Nat → Array Bool → Bool
  | .pur i t, k, listed => decide (i < n) && decide (0 < k) && (Region.ready md ops listed).contains i && Region.free md ops listed i && tiB md ops n t (k - 1) (listed.setIfInBounds i true)
  | .one i t, k, listed => decide (i < n) && decide (0 < k) && decide (Region.ready md ops listed = [i]) && tiB md ops n t (k - 1) (listed.setIfInBounds i true)
  | .two i j t u, k, listed => decide (i < n) && decide (j < n) && decide (0 < k) && decide (Region.ready md ops listed = [i, j]) && tiB md ops n t (k - 1) (listed.setIfInBounds i true) && tiB md ops n u (k - 1) (listed.setIfInBounds j true)
  | .tail, k, listed => decide (k = 0) && Region.seqB md ops (ops.size - n) n listed
def tisB (md : Region.Mode) (ops : Array Oper) (n : Nat) (t : Ti) : Bool :=
  Region.noSelect ops && decide (n < ops.size) && Region.sinkB md ops n && Region.chainB md ops n && tiB md ops n t n (Array.replicate ops.size false)

def HeadJ (P : Program) (ops : Array Oper) (Q : Exit → Act → World → Prop) (n : Nat) : Ti → (World → Prop) → Act → World → Prop
  | .pur i t, S, a, w => ∃ oi v, ops[i]? = some oi ∧ YieldsIf P ops S oi v a ∧ HeadJ P ops Q n t S (a.put oi.dst v) w
  | .one i t, S, a, w => wpOp P ops Q i (fun a' w' => ∃ S' : World → Prop, (∀ x, S' x → S x) ∧ S' w' ∧ HeadJ P ops Q n t S' a' w') a w
  | .two i j t u, S, a, w => wpOp P ops Q i (fun a' w' => ∃ S' : World → Prop, (∀ x, S' x → S x) ∧ S' w' ∧ HeadJ P ops Q n t S' a' w') a w ∧
      wpOp P ops Q j (fun a' w' => ∃ S' : World → Prop, (∀ x, S' x → S x) ∧ S' w' ∧ HeadJ P ops Q n u S' a' w') a w
  | .tail, _, a, w => wpList P ops Q (ops.toList.drop n) a w

theorem wpAnyT_ti {md : Region.Mode} {n : Nat} (hsel : Region.noSelect ops = true) (hn : n < ops.size) (hs : Region.sinkB md ops n = true) (hc : Region.chainB md ops n = true) (hQ : ∀ c a w, ¬ Q (.panic c) a w) :
    ∀ (t : Ti) (k : Nat) (S : World → Prop) (listed : Array Bool) (a : Act) (w : World), HeadInv md ops n listed → S w → tiB md ops n t k listed = true → HeadJ P ops Q n t S a w →
      wpAnyT P md ops Q S n (k + (ops.size - n)) listed a w
  | .pur i t, k, S, listed, a, w, inv, hS, hB, ⟨oi, v, hi, hy, h⟩ => by
    simp only [tiB, Bool.and_eq_true, decide_eq_true_eq] at hB
    obtain ⟨⟨⟨⟨hin, hk⟩, hr⟩, hf⟩, hB⟩ := hB
    have hr' : i ∈ Region.ready md ops listed := by simpa using hr
    have := wpAnyT_ti hsel hn hs hc hQ t (k - 1) S _ _ _ (inv.set hr' hin) hS hB h
    rw [show k + (ops.size - n) = (k - 1 + (ops.size - n)) + 1 from by omega]
    exact wpAnyT_first hi (Region.noSelect_spec hsel) hs hc hn hin hQ _ listed a w inv (Region.free_spec hi hf) hr' hy hS this
  | .one i t, k, S, listed, a, w, inv, hS, hB, h => by
    simp only [tiB, Bool.and_eq_true, decide_eq_true_eq] at hB
    obtain ⟨⟨⟨hin, hk⟩, hr⟩, hB⟩ := hB
    rw [show k + (ops.size - n) = (k - 1 + (ops.size - n)) + 1 from by omega]
    refine ⟨fun h0 => (by rw [hr] at h0; cases h0), fun j hj => ?_⟩
    have hmem := hj
    rw [hr] at hj
    have hji : j = i := by simpa using hj
    subst hji
    have h : wpOp P ops Q j (fun a' w' => ∃ S' : World → Prop, (∀ x, S' x → S x) ∧ S' w' ∧ HeadJ P ops Q n t S' a' w') a w := h
    exact wpOp_mono (fun a' w' ⟨S', h1, h2, h3⟩ => ⟨fun _ => h1 _ h2, wpAnyT_S h1 _ _ _ _ (wpAnyT_ti hsel hn hs hc hQ t _ S' _ _ _ (inv.set hmem hin) h2 hB h3)⟩) h
  | .two i i2 t u, k, S, listed, a, w, inv, hS, hB, h => by
    simp only [tiB, Bool.and_eq_true, decide_eq_true_eq] at hB
    obtain ⟨⟨⟨⟨⟨hin, hin2⟩, hk⟩, hr⟩, hB⟩, hB2⟩ := hB
    rw [show k + (ops.size - n) = (k - 1 + (ops.size - n)) + 1 from by omega]
    refine ⟨fun h0 => (by rw [hr] at h0; cases h0), fun j hj => ?_⟩
    have hmem := hj
    rw [hr] at hj
    obtain ⟨ha, hb⟩ : wpOp P ops Q i (fun a' w' => ∃ S' : World → Prop, (∀ x, S' x → S x) ∧ S' w' ∧ HeadJ P ops Q n t S' a' w') a w ∧
      wpOp P ops Q i2 (fun a' w' => ∃ S' : World → Prop, (∀ x, S' x → S x) ∧ S' w' ∧ HeadJ P ops Q n u S' a' w') a w := h
    have hji : j = i ∨ j = i2 := by simpa using hj
    rcases hji with rfl | rfl
    · exact wpOp_mono (fun a' w' ⟨S', h1, h2, h3⟩ => ⟨fun _ => h1 _ h2, wpAnyT_S h1 _ _ _ _ (wpAnyT_ti hsel hn hs hc hQ t _ S' _ _ _ (inv.set hmem hin) h2 hB h3)⟩) ha
    · exact wpOp_mono (fun a' w' ⟨S', h1, h2, h3⟩ => ⟨fun _ => h1 _ h2, wpAnyT_S h1 _ _ _ _ (wpAnyT_ti hsel hn hs hc hQ u _ S' _ _ _ (inv.set hmem hin2) h2 hB2 h3)⟩) hb
  | .tail, k, S, listed, a, w, inv, hS, hB, h => by
    simp only [tiB, Bool.and_eq_true, decide_eq_true_eq] at hB
    obtain ⟨rfl, hB⟩ := hB
    have h : wpList P ops Q (ops.toList.drop n) a w := h
    have hlen : (ops.toList.drop n).length = ops.size - n := by simp
    have := wpAnyT_tail (P := P) (Q := Q) (md := md) (S := S) (n := n) (ops.toList.drop n) n listed a w (Nat.le_refl _) (fun j => by simp) (fun h => by omega) inv.size (by rw [hlen]; exact hB) h
    rw [hlen] at this
    simpa using this

theorem wp_region_tis {id : Nat} {S : World → Prop} {n : Nat} {t : Ti} {a : Act} {w : World} (hm : P.follows .mixedOrders = true) (hB : tisB .any ops n t = true) (hQ : ∀ c a w, ¬ Q (.panic c) a w)
    (hS : S { w with drawn := w.drawn + 1 }) (h : HeadJ P ops Q n t S a { w with drawn := w.drawn + 1 }) : (Code.region id ops true).wp P Q a w := by
  simp only [tisB, Bool.and_eq_true, decide_eq_true_eq] at hB
  obtain ⟨⟨⟨⟨hsel, hn⟩, hs⟩, hc⟩, hhead⟩ := hB
  have inv0 : HeadInv .any ops n (Array.replicate ops.size false) :=
    ⟨by simp, fun j oj _ hl => (by rw [getD_replicate_false] at hl; cases hl), fun t _ ht => getD_in (by simpa using ht) (getD_replicate_false _ _)⟩
  have := wpAnyT_ti hsel hn hs hc hQ t n S _ _ _ inv0 hS hhead h
  rw [show n + (ops.size - n) = ops.size from by omega] at this
  exact wp_region_any hm (wpAny_of_T _ _ _ _ this)
end

section
variable {X : Ctx} {w w' : World} {ob ob' : List Ob} {m m' : Mp} {cn cn' : Nat → Cnt}

/-- the same objects, as one step sees them -/
def ctxQ (X : Ctx) (w : World) (m : Mp) (cn : Nat → Cnt) : Ctx := ⟨w, fun b => b < w.heap.size ∧ frz X cn b, fun b => ∃ id, 0 < cn id b, m, X.n0⟩

theorem Inv.live (hi : Inv X w ob m cn) : Inv (ctxQ X w m cn) w ob m cn ∧ ∀ b, b < w.heap.size → frz X cn b → frz (ctxQ X w m cn) cn b := by
  have hfr : ∀ b, b < w.heap.size → frz X cn b → frz (ctxQ X w m cn) cn b := fun b hb h => ⟨.inl ⟨hb, h⟩, h.2⟩
  exact ⟨⟨Nat.le_refl _, fun _ _ _ => rfl, rfl, rfl, rfl, fun i o ho => (hi.obj i o ho).mono hfr, hi.dis, hi.one, fun i b h => ⟨(hi.new i b h).1, .inr ⟨i, h⟩⟩, hi.fresh, fun _ _ => rfl, hi.mlt, hi.n0, fun _ _ => rfl⟩, hfr⟩

theorem Inv.unlive (hi : Inv X w ob m cn) (h' : Inv (ctxQ X w m cn) w' ob' m' cn') :
    Inv X w' ob' m' cn' ∧ (∀ b, frz (ctxQ X w m cn) cn' b → frz X cn' b) ∧ (∀ b, b < w.heap.size → frz X cn b → w'.heap[b]? = w.heap[b]?) ∧ (∀ b, b < w.heap.size → frz X cn b → frz X cn' b) := by
  have hfr : ∀ b, frz (ctxQ X w m cn) cn' b → frz X cn' b := by
    rintro b ⟨h1, h2⟩
    rcases h1 with ⟨_, h1⟩ | hb
    · exact ⟨h1.1, h2⟩
    · exact ⟨.inr (Nat.le_trans hi.le hb), h2⟩
  have hnew' : ∀ id b, 0 < cn' id b → b < w.heap.size → ∃ k, 0 < cn k b := fun id b h hb => by
    rcases (h'.new id b h).2 with h | h
    · have : w.heap.size ≤ b := h
      omega
    · exact h
  have hfrz2 : ∀ b, b < w.heap.size → frz X cn b → frz X cn' b := fun b hb h => ⟨h.1, fun id => by
    rcases Nat.eq_zero_or_pos (cn' id b) with h0 | h0
    · exact h0
    · obtain ⟨k, hk⟩ := hnew' id b h0 hb
      have := h.2 k; omega⟩
  have hheap : ∀ b, b < w.heap.size → frz X cn b → w'.heap[b]? = w.heap[b]? := fun b hb h => by
    refine h'.kept b hb fun ⟨k, hc⟩ => ?_
    have := h.2 k; omega
  refine ⟨⟨Nat.le_trans hi.le h'.le, fun b hb ho => ?_, h'.os.trans hi.os, h'.tape.trans hi.tape, h'.output.trans hi.output, fun i o ho => (h'.obj i o ho).mono (fun b _ h => hfr b h), h'.dis, h'.one, fun i b h => ?_,
    h'.fresh, fun i h => ?_, h'.mlt, h'.n0, fun b hb => ?_⟩, hfr, hheap, hfrz2⟩
  · rw [h'.kept b (Nat.lt_of_lt_of_le hb hi.le) (fun ⟨k, hk⟩ => ?_)]
    · exact hi.kept b hb ho
    · rcases (hi.new k b hk).2 with h | h
      · omega
      · exact ho h
  · obtain ⟨g1, g2⟩ := h'.new i b h
    refine ⟨g1, ?_⟩
    rcases g2 with g2 | ⟨k, hk⟩
    · exact .inl (Nat.le_trans hi.le g2)
    · exact (hi.new k b hk).2
  · rw [h'.pas i h]; exact hi.pas i h
  · rw [h'.shp b (Nat.lt_of_lt_of_le hb hi.le)]; exact hi.shp b hb
end

section
variable {P : Program} {X : Ctx} {st s1 s2 s3 : St} {Q : Exit → St → Prop} {T : Nat → Option TI} {ls : List Oper}

inductive StepsL (P : Program) (T : Nat → Option TI) (n0 : Nat) (ops : Array Oper) : Ti → St → St → Prop
  | tail {s : St} : StepsL P T n0 ops .tail s s
  | pur {i : Nat} {t : Ti} {s s1 s2 : St} (h : runTk T n0 ops [] [i] s = some s1) (k : StepsL P T n0 ops t s1 s2) : StepsL P T n0 ops (.pur i t) s s2
  | one {i : Nat} {o : Oper} {t : Ti} {s s1 s2 : St} (ho : ops[i]? = some o) (h : ∀ X' : Ctx, X'.n0 = n0 → Runs P X' ops [o] s s1) (k : StepsL P T n0 ops t s1 s2) : StepsL P T n0 ops (.one i t) s s2
  | two {i j : Nat} {t u : Ti} {s s2 : St} (h1 : StepsL P T n0 ops (.one i t) s s2) (h2 : StepsL P T n0 ops (.one j u) s s2) : StepsL P T n0 ops (.two i j t u) s s2

theorem stepsL_ok (hT : TOK P T) {n n0 : Nat} (hX : X.n0 = n0) {ops : Array Oper} {Qf : Exit → Act → World → Prop} {l : Ti} (h : StepsL P T n0 ops l st s1) :
    ∀ {w : World} {m : Mp} {cn : Nat → Cnt} {a : Act}, Inv X w st.ob m cn → Sl X w m cn st.tm a → a.defers = [] →
      (∀ w m cn a, Inv X w s1.ob m cn → Sl X w m cn s1.tm a → a.defers = [] → wpList P ops Qf (ops.toList.drop n) a w) → HeadJ P ops Qf n l (Kr X cn [] w) a w := by
  induction h with
  | tail => intro w m cn a hi hs hd hk; exact hk w m cn a hi hs hd
  | two h1 h2 ih1 ih2 => intro w m cn a hi hs hd hk; exact ⟨ih1 hi hs hd hk, ih2 hi hs hd hk⟩
  | @pur i t s s1 s2 h k ih =>
    intro w m cn a hi hs hd hk
    have hob := runTk_ob h
    simp only [runTk] at h
    split at h
    · cases h
    · rename_i o ho
      split at h
      · rename_i hg
        split at h
        · rename_i hp
          split at h
          · rename_i x st' hx
            obtain ⟨u, hu, hR⟩ := (opB_okp (X := X) (L := []) hT hx hp.1 hp.2).1 w m cn a hi hs
            cases h
            refine ⟨o, u, ho, .inl ⟨gd_ok hs hg, hu⟩, ih hi ?_ (put_defers _ _ hd) hk⟩
            have := hs.set o.dst hR
            cases hod : o.dst <;> simpa [setD, hod] using this
          · cases h
        · cases h
      · rename_i hg
        cases h
        refine ⟨o, undef, ho, .inr ⟨gd_ok hs hg, rfl⟩, ih hi ?_ (put_defers _ _ hd) hk⟩
        have := hs.set o.dst (x := .tup []) (u := undef) (.tup .lnil)
        cases hod : o.dst <;> simpa [setD, hod] using this
      · cases h
  | @one i o t s s1 s2 ho h k ih =>
    intro w m cn a hi hs hd hk
    obtain ⟨h1, h2⟩ := hi.live
    have hs' : Sl (ctxQ X w m cn) w m cn s.tm a := hs.mono (Nat.le_refl _) (fun b hb hf => ⟨h2 b hb hf, rfl⟩) (fun _ _ => rfl) trivial (fun _ _ h => ⟨h, rfl⟩)
    have hr := h (ctxQ X w m cn) hX [] (fun e st => e = .normal ∧ st = s1) (WL_nil ⟨rfl, rfl⟩) w m cn a h1 hs' hd
    have step : wpList P ops (post (ctxQ X w m cn) (fun e st => e = .normal ∧ st = s1)) [o] a w := hr
    have fin : ∀ a' w', post (ctxQ X w m cn) (fun e st => e = .normal ∧ st = s1) .normal a' w' → ∃ S' : World → Prop, (∀ x, S' x → Kr X cn [] w x) ∧ S' w' ∧ HeadJ P ops Qf n t S' a' w' := by
      rintro a' w' ⟨st2, m', cn', ⟨_, rfl⟩, hi', hs2, hd'⟩
      obtain ⟨u1, u2, u3, u4⟩ := hi.unlive hi'
      refine ⟨Kr X cn' [] w', fun x hx => ⟨Nat.le_trans hi'.le hx.1, fun b hb hc => ?_⟩, Kr.refl _,
        ih u1 (hs2.mono (Nat.le_refl _) (fun b _ hf => ⟨u2 b hf, rfl⟩) (fun _ _ => rfl) trivial (fun _ _ h => ⟨h, rfl⟩)) hd' hk⟩
      rcases hc with hc | ⟨_, hid, _⟩
      · rw [hx.2 b (Nat.lt_of_lt_of_le hb hi'.le) (.inl (u4 b hb hc)), u3 b hb hc]
      · cases hid
    show wpOp P ops Qf i _ a w
    unfold wpOp
    simp only [ho]
    unfold wpList at step
    split
    · rename_i hw
      rw [if_pos hw] at step
      rcases step with step | ⟨_, a', w', st2, m', cn', ⟨h0, _⟩, _⟩
      · exact .inl (wp_mono2 (fun a' w' h => fin a' w' h) (fun e a' w' hne ⟨st2, m', cn', ⟨h0, _⟩, _⟩ => absurd h0 hne) step)
      · cases h0
    · rename_i hw
      rw [if_neg hw] at step
      exact fin _ _ step

theorem W_tis {id n : Nat} {t : Ti} (hm : P.follows .mixedOrders = true) (hB : tisB .any ls.toArray n t = true) (hT : TOK P T) {n0 : Nat} (hX : X.n0 = n0)
    (hH : StepsL P T n0 ls.toArray t st s2) (h2 : Runs P X ls.toArray (ls.drop n) s2 s3) (hq : Q .normal s3) : W P X (.region id ls.toArray true) st Q := by
  intro w m cn a hi hs hd
  have hi' : Inv X { w with drawn := w.drawn + 1 } st.ob m cn := hi.drew
  have hs' : Sl X { w with drawn := w.drawn + 1 } m cn st.tm a := Ext.drew.Sl hs
  refine Code.wp_mono (Q := normQ (post X Q)) (fun e a' w' h => ?_) ?_
  · cases e <;> first | exact h | exact h.elim
  refine wp_region_tis (S := Kr X cn [] { w with drawn := w.drawn + 1 }) hm hB (fun _ _ _ h => h) (Kr.refl _) ?_
  refine stepsL_ok hT hX hH hi' hs' hd (fun w3 m3 cn3 a3 hi3 hs3 hd3 => ?_)
  have := h2 [] (fun e s => e = .normal ∧ Q .normal s) (WL_nil ⟨rfl, hq⟩) w3 m3 cn3 a3 hi3 hs3 hd3
  rw [List.append_nil] at this
  refine wpList_mono2 (fun a w ⟨s, m, cn, ⟨_, h⟩, r⟩ => ⟨s, m, cn, h, r⟩) (fun e a w hne ⟨s, m, cn, ⟨h0, _⟩, _⟩ => absurd h0 hne) _ _ _ this

theorem W_tiseqK {id : Nat} {y : Code} (n : Nat) (t : Ti) (ks : List Nat) (hm : P.follows .mixedOrders = true) (hB : tisB .any ls.toArray n t = true) (hT : TOK P T) {n0 : Nat} (hX : X.n0 = n0)
    (hH : StepsL P T n0 ls.toArray t st s2) (h2 : Runs P X ls.toArray (ls.drop n) s2 s3) (hk : W P X y (s3.keep ks) Q) : W P X (.seq (.region id ls.toArray true) y) st Q :=
  W_seq (W_tis hm hB hT hX hH h2 (W_le (Le.keep ks s3) hk))
end
end Go.Ev
/-! Two objects change their places. -/
namespace Go.Ev
open Go
def swp (a b id : Nat) : Nat := if id = a then b else if id = b then a else id
theorem swp_swp (a b id : Nat) : swp a b (swp a b id) = id := by
  unfold swp
  by_cases h1 : id = a
  · subst h1; rw [if_pos rfl]; by_cases h2 : b = id
    · rw [if_pos h2, h2]
    · rw [if_neg h2, if_pos rfl]
  · rw [if_neg h1]; by_cases h2 : id = b
    · subst h2; rw [if_pos rfl, if_pos rfl]
    · rw [if_neg h2, if_neg h1, if_neg h2]
def gSw (a b : Nat) (id : Nat) : Option Nat := some (swp a b id)
def St.swap (a b : Nat) (s : St) : St :=
  ⟨mapL (gSw a b) s.tm, ((s.ob.map (mapO (gSw a b))).set a (mapO (gSw a b) (s.ob.getD b none))).set b (mapO (gSw a b) (s.ob.getD a none))⟩
theorem swap_at {a b : Nat} {ob : List Ob} (ha : a < ob.length) (hb : b < ob.length) (g : Ob → Ob) (i : Nat) : (((ob.map g).set a (g (ob.getD b none))).set b (g (ob.getD a none)))[i]? = ob[swp a b i]?.map g := by
  unfold swp
  by_cases h1 : i = a
  · subst h1
    rw [if_pos rfl]
    by_cases h2 : b = i
    · subst h2; rw [List.getElem?_set_self (by simpa using hb)]; simp [hb]
    · rw [List.getElem?_set_ne h2, List.getElem?_set_self (by simpa using ha)]; simp [hb]
  · rw [if_neg h1]
    by_cases h2 : i = b
    · subst h2
      rw [if_pos rfl, List.getElem?_set_self (by simpa using hb)]; simp [ha]
    · rw [if_neg h2, List.getElem?_set_ne (Ne.symm h2), List.getElem?_set_ne (Ne.symm h1), List.getElem?_map]
theorem swap_inv {X : Ctx} (a b : Nat) {s : St} (h : X.n0 ≤ a ∧ X.n0 ≤ b ∧ a < s.ob.length ∧ b < s.ob.length) {w : World} {m : Mp} {cn : Nat → Cnt} {act : Act} (hi : Inv X w s.ob m cn) (hs : Sl X w m cn s.tm act) :
    frz X (fun id => cn (swp a b id)) = frz X cn ∧ Inv X w (s.swap a b).ob (fun id => m (swp a b id)) (fun id => cn (swp a b id)) ∧ Sl X w (fun id => m (swp a b id)) (fun id => cn (swp a b id)) (s.swap a b).tm act := by
  obtain ⟨h1, h2, h3, h4⟩ := h
  have hlo : ∀ id, id < X.n0 → swp a b id = id := fun id hid => by unfold swp; rw [if_neg (by omega), if_neg (by omega)]
  have hhi : ∀ id, s.ob.length ≤ id → swp a b id = id := fun id hid => by unfold swp; rw [if_neg (by omega), if_neg (by omega)]
  have hfr : frz X (fun id => cn (swp a b id)) = frz X cn := by
    funext x
    refine propext ⟨fun ⟨p, q⟩ => ⟨p, fun id => ?_⟩, fun ⟨p, q⟩ => ⟨p, fun id => q _⟩⟩
    have := q (swp a b id)
    simpa only [swp_swp] using this
  have hm : ∀ id q, gSw a b id = some q → (fun id => m (swp a b id)) q = m id := fun id q e => by
    simp only [gSw, Option.some.injEq] at e
    subst e
    show m (swp a b (swp a b id)) = m id
    rw [swp_swp]
  have hobl : (s.swap a b).ob.length = s.ob.length := by simp [St.swap]
  refine ⟨hfr, ⟨hi.le, hi.kept, hi.os, hi.tape, hi.output, fun id o ho => ?_, fun x i j p q => ?_, fun i x => hi.one _ x, fun i x p => hi.new _ x p, fun id hid => ?_, fun id hid => ?_, fun id x p => hi.mlt _ x p, by rw [hobl]; exact hi.n0, hi.shp⟩, ?_⟩
  · rw [hfr]
    rw [show (s.swap a b).ob[id]? = s.ob[swp a b id]?.map (mapO (gSw a b)) from swap_at h3 h4 _ id] at ho
    cases ho0 : s.ob[swp a b id]? with
    | none => rw [ho0] at ho; cases ho
    | some o0 =>
      rw [ho0] at ho
      cases ho
      have hk := hi.obj _ _ ho0
      cases o0 with
      | none => trivial
      | some kx =>
        obtain ⟨k, xs⟩ := kx
        simp only [mapO]
        rcases hk with ⟨e, p, q⟩ | ⟨bl, cur, e, c, p1, p2, p3, p4, p5, p6⟩
        · subst e; exact .inl ⟨rfl, p, q⟩
        · refine .inr ⟨bl, cur, e, c, p1, p2, uni_mapL p3 _, by rw [mapL_map, List.length_map]; exact p4, ?_, p6⟩
          have := p5.mapId hm
          rw [mapL_flat]; exact this
  · have := hi.dis x _ _ p q
    have := congrArg (swp a b) this
    simpa only [swp_swp] using this
  · rw [hobl] at hid
    show m (swp a b id) = none
    rw [hhi id hid]; exact hi.fresh id hid
  · show m (swp a b id) = _
    rw [hlo id hid]; exact hi.pas id hid
  · show R w (frz X fun id => cn (swp a b id)) _ _ _
    rw [hfr]
    exact R.mapId hm hs
theorem Le.swap {X : Ctx} (a b : Nat) {s : St} (h : X.n0 ≤ a ∧ X.n0 ≤ b ∧ a < s.ob.length ∧ b < s.ob.length) : Le X s (s.swap a b) := fun _ _ _ _ hi hs =>
  let ⟨_, h2, h3⟩ := swap_inv a b h hi hs
  ⟨_, _, h2, h3⟩
theorem Runs.leR {P : Program} {X : Ctx} {ops : Array Oper} {l : List Oper} {st s1 s2 : St} (hk : Runs P X ops l st s1) (h : Le X s1 s2) : Runs P X ops l st s2 := fun rest Q hq => hk rest Q (WL_le h hq)
section
variable {P : Program} {X : Ctx} {st s1 s2 s3 : St} {Q : Exit → St → Prop} {T : Nat → Option TI} {ls : List Oper} {L : List Nat}
inductive StepsW (P : Program) (ops : Array Oper) (n0 : Nat) (L : List Nat) : Tr → St → St → Prop
  | sw {a b : Nat} {t : Tr} {s s' s2 : St} (hb : n0 ≤ a ∧ n0 ≤ b ∧ a < s.ob.length ∧ b < s.ob.length) (hl : a ∉ L ∧ b ∉ L) (he : s.swap a b = s') (k : StepsW P ops n0 L t s' s2) : StepsW P ops n0 L t s s2
  | tail {s : St} : StepsW P ops n0 L .tail s s
  | one {i : Nat} {o : Oper} {t : Tr} {s s' s1 s2 : St} (ho : ops[i]? = some o) (hL : ∀ id ∈ L, id < s.ob.length)
      (h : ∀ X' : Ctx, X'.n0 = s.ob.length → Runs P X' ops [o] ⟨s.tm, hid L s.ob⟩ s') (he : (⟨s'.tm, unh s.ob L s'.ob⟩ : St) = s1) (ht : StepsW P ops n0 L t s1 s2) : StepsW P ops n0 L (.one i t) s s2
  | two {i j : Nat} {t u : Tr} {s s2 : St} (h1 : StepsW P ops n0 L (.one i t) s s2) (h2 : StepsW P ops n0 L (.one j u) s s2) : StepsW P ops n0 L (.two i j t u) s s2

theorem stepsW_ok {n0 : Nat} (hX : X.n0 = n0) {n : Nat} {ops : Array Oper} {Qf : Exit → Act → World → Prop} {w0 : World} {cn0 : Nat → Cnt} {t : Tr} (h : StepsW P ops n0 L t st s1) :
    ∀ {w : World} {m : Mp} {cn : Nat → Cnt} {a : Act}, Inv X w st.ob m cn → Sl X w m cn st.tm a → a.defers = [] → Kr X cn0 L w0 w → (∀ b, b < w0.heap.size → frz X cn0 b → frz X cn b) → (∀ id ∈ L, cn id = cn0 id) →
      (∀ w m cn a, Inv X w s1.ob m cn → Sl X w m cn s1.tm a → a.defers = [] → wpList P ops Qf (ops.toList.drop n) a w) → HeadT P ops Qf (Kr X cn0 L w0) n t a w := by
  induction h with
  | tail => intro w m cn a hi hs hd _ _ _ hk; exact hk w m cn a hi hs hd
  | @sw a b t s s' s2 hb hl he k ih =>
    intro w m cn act hi hs hd hK hF hC hk
    subst he
    obtain ⟨g1, g2, g3⟩ := swap_inv a b (by rw [hX]; exact hb) hi hs
    refine ih g2 g3 hd hK (fun b hb h => by rw [g1]; exact hF b hb h) (fun id hid => ?_) hk
    have e1 : id ≠ a := fun e => hl.1 (by rw [← e]; exact hid)
    have e2 : id ≠ b := fun e => hl.2 (by rw [← e]; exact hid)
    show cn (swp a b id) = _
    rw [show swp a b id = id from by unfold swp; rw [if_neg e1, if_neg e2]]
    exact hC id hid
  | two h1 h2 ih1 ih2 => intro w m cn a hi hs hd hK hF hC hk; exact ⟨ih1 hi hs hd hK hF hC hk, ih2 hi hs hd hK hF hC hk⟩
  | @one i o t s s' s1 s2 ho hL h he ht ih =>
    intro w m cn a hi hs hd hK hF hC hk
    subst he
    obtain ⟨h1, h2⟩ := hi.hide L
    have hs' : Sl (ctxH X w m cn L s.ob.length) w m (cnH L cn) s.tm a := hs.mono (Nat.le_refl _) (fun b hb hf => ⟨h2 b hb hf, rfl⟩) (fun _ _ => rfl) trivial (fun _ _ h => ⟨h, rfl⟩)
    have hr := h (ctxH X w m cn L s.ob.length) rfl [] (fun e st => e = .normal ∧ st = s') (WL_nil ⟨rfl, rfl⟩) w m (cnH L cn) a h1 hs' hd
    have step : wpList P ops (post (ctxH X w m cn L s.ob.length) (fun e st => e = .normal ∧ st = s')) [o] a w := hr
    have fin : ∀ a' w', post (ctxH X w m cn L s.ob.length) (fun e st => e = .normal ∧ st = s') .normal a' w' → Kr X cn0 L w0 w' ∧ HeadT P ops Qf (Kr X cn0 L w0) n t a' w' := by
      rintro a' w' ⟨st2, m', cn', ⟨_, rfl⟩, hi', hs2, hd'⟩
      obtain ⟨u1, u2, u3, u4⟩ := hi.unhide hL hi'
      have hK' : Kr X cn0 L w0 w' := ⟨Nat.le_trans hK.1 hi'.le, fun b hb hc => by
        rw [u3 b (Nat.lt_of_lt_of_le hb hK.1) (hc.imp (hF b hb) (fun ⟨id, hid, hc⟩ => ⟨id, hid, by rw [hC id hid]; exact hc⟩))]
        exact hK.2 b hb hc⟩
      refine ⟨hK', ih u1 (hs2.mono (Nat.le_refl _) (fun b _ hf => ⟨u2 b hf, rfl⟩) (fun _ _ => rfl) trivial (fun _ _ h => ⟨h, rfl⟩)) hd' hK' (fun b hb hf => u4 b (Nat.lt_of_lt_of_le hb hK.1) (hF b hb hf)) (fun id hid => ?_) hk⟩
      unfold cnU
      rw [if_pos hid]
      exact hC id hid
    show wpOp P ops Qf i _ a w
    unfold wpOp
    simp only [ho]
    unfold wpList at step
    split
    · rename_i hw
      rw [if_pos hw] at step
      rcases step with step | ⟨_, a', w', st2, m', cn', ⟨h0, _⟩, _⟩
      · exact .inl (wp_mono2 (fun a' w' h => fin a' w' h) (fun e a' w' hne ⟨st2, m', cn', ⟨h0, _⟩, _⟩ => absurd h0 hne) step)
      · cases h0
    · rename_i hw
      rw [if_neg hw] at step
      exact fin _ _ step

theorem W_treeS {id n : Nat} {A : List Nat} {t : Tr} (hm : P.follows .mixedOrders = true) (hB : treeB .any ls.toArray n A t = true) (hT : TOK P T) {n0 : Nat} (hX : X.n0 = n0) (hA : runTk T n0 ls.toArray L A st = some s1)
    (hH : StepsW P ls.toArray n0 L t s1 s2) (h2 : Runs P X ls.toArray (ls.drop n) s2 s3) (hq : Q .normal s3) : W P X (.region id ls.toArray true) st Q := by
  intro w m cn a hi hs hd
  have hi' : Inv X { w with drawn := w.drawn + 1 } st.ob m cn := hi.drew
  have hs' : Sl X { w with drawn := w.drawn + 1 } m cn st.tm a := Ext.drew.Sl hs
  have hob := runTk_ob hA
  refine Code.wp_mono (Q := normQ (post X Q)) (fun e a' w' h => ?_) ?_
  · cases e <;> first | exact h | exact h.elim
  refine wp_region_tree (S := Kr X cn L { w with drawn := w.drawn + 1 }) hm hB (fun _ _ _ h => h) (Kr.refl _) (runTk_okK hT hA hi' hs' hd fun a' hs2 hd2 => ?_)
  refine stepsW_ok hX hH (hob ▸ hi') hs2 hd2 (Kr.refl _) (fun _ _ h => h) (fun _ _ => rfl) (fun w3 m3 cn3 a3 hi3 hs3 hd3 => ?_)
  have := h2 [] (fun e s => e = .normal ∧ Q .normal s) (WL_nil ⟨rfl, hq⟩) w3 m3 cn3 a3 hi3 hs3 hd3
  rw [List.append_nil] at this
  refine wpList_mono2 (fun a w ⟨s, m, cn, ⟨_, h⟩, r⟩ => ⟨s, m, cn, h, r⟩) (fun e a w hne ⟨s, m, cn, ⟨h0, _⟩, _⟩ => absurd h0 hne) _ _ _ this

theorem W_tseqS {id : Nat} {y : Code} (n : Nat) (A : List Nat) (t : Tr) (ks : List Nat) (L : List Nat) (hm : P.follows .mixedOrders = true) (hB : treeB .any ls.toArray n A t = true) (hT : TOK P T) {n0 : Nat} (hX : X.n0 = n0) (hA : runTk T n0 ls.toArray L A st = some s1)
    (hH : StepsW P ls.toArray n0 L t s1 s2) (h2 : Runs P X ls.toArray (ls.drop n) s2 s3) (hk : W P X y (s3.keep ks) Q) : W P X (.seq (.region id ls.toArray true) y) st Q :=
  W_seq (W_treeS hm hB hT hX hA hH h2 (W_le (Le.keep ks s3) hk))
end
end Go.Ev
/-! A list that begins with nothing: s[:0:0], and what is appended to it. -/
namespace Go.Ev
open Go
section
variable {P : Program} {X : Ctx} {L : List Nat} {st s2 : St} {o : Oper} {T : Nat → Option TI} {ops : Array Oper} {rest : List Oper}

theorem ok_sliceZ (hT : TOK P T) {t e : Nat} {x : Operand} {lo hi mx : Option Operand} {ti ei : TI} (ho : o.op = .slice t x lo hi mx) (ht : T t = some ti) (hk : ti.kd = .slice e) (he : T e = some ei)
    {xs : List V} (hx : val st x = .lst false ei.size xs) {l : Option Nat} (hl : bnd st lo = some l) (hh : bnd st hi = some (some 0)) (hq : bnd st mx = some (some 0)) (h0 : l.getD 0 = 0) : OKp P X L st o (.lst true ei.size []) := by
  intro w m cn a hi' hs
  have hR := val_ok hs x
  rw [hx] at hR
  have fin : ∀ ad : Option Addr, R w (frz X cn) m (.one (.lst true ei.size []) (.slice ad 0 0)) z0 := fun ad => by cases ad <;> first | exact R.nil | exact R.nilz
  rcases R.inv_lst hR with ⟨rfl, ad, hu⟩ | ⟨b, off, cap, hu, hcap, hb, hfr, huni, hc⟩
  · have hb := run_bounds (P := P) true 0 0 l (some 0) (some 0) _ _ _ (bnd_ok hs hl) (bnd_ok hs hh) (bnd_ok hs hq) (by simp) (by simp) (by simp [h0]) (by simp)
    have hr := fun w => run_sliceL hT ht hk he ad 0 0 _ _ _ _ _ _ w (hb w)
    refine ⟨.slice ad 0 0, fun w _ => ?_, fin ad⟩
    simp only [execOp, ho, hu, hr, Sem.run_bind, Result.andThen_ok, Sem.run_pure]
    simp [h0]
  · have hb := run_bounds (P := P) true xs.length cap l (some 0) (some 0) _ _ _ (bnd_ok hs hl) (bnd_ok hs hh) (bnd_ok hs hq) (by simp) (by simp) (by simp [h0]) (by simp)
    have hr := fun w => run_sliceL hT ht hk he (some ⟨b, off, none⟩) xs.length cap _ _ _ _ _ _ w (hb w)
    refine ⟨.slice (some ⟨b, off, none⟩) 0 0, fun w _ => ?_, fin _⟩
    simp only [execOp, ho, hu, hr, Sem.run_bind, Result.andThen_ok, Sem.run_pure]
    simp [h0]

/-- append to an own list that holds nothing -/
theorem ok_appendZ (hT : TOK P T) {t e : Nat} {s x : Operand} {ti ei : TI} (ho : o.op = .call { callee := .builtin .append, args := #[s, x], argTypes := #[t, t] }) (ht : T t = some ti) (hk : ti.kd = .slice e) (he : T e = some ei)
    (hz0 : ei.zero.cells.length = ei.size) {k : Nat} (hs0 : val st s = .lst true k []) {ys : List V} (hy : srcA st.ob (val st x) = some (ei.size, ys))
    (hbig : ys.length * ei.bytes ≤ 140737488355328) (h63 : ys.length ≤ 1099511627776) :
    OKo P X st o (.arr st.ob.length 0 ys.length) ⟨jkL (· == st.ob.length) st.tm, (st.ob ++ [some (ei.size, [])]).map (jkO (· == st.ob.length)) |>.set st.ob.length (some (ei.size, jkL (· == st.ob.length) ys))⟩ := by
  intro w m cn a hi hs
  obtain ⟨h1, h2⟩ := hi.nameNil ei.size
  have hv : ∀ y, val (⟨st.tm, st.ob ++ [some (ei.size, [])]⟩ : St) y = val st y := fun y => by cases y <;> rfl
  have := ok_appendA (P := P) (X := X) (st := ⟨st.tm, st.ob ++ [some (ei.size, [])]⟩) hT ho ht hk he hz0 (id := st.ob.length) (n := 0) (xs := [])
    (fun w m cn a hi hs => by
      have := val_ok hs s
      rw [hv, hs0] at this
      generalize a.eval s = u at this ⊢
      generalize hzz : z0 = c0 at this
      cases this with
      | nil => exact .arrn
      | nilz => exact .arrn
      | own hb hs hk hn h hc =>
        rename_i b _ _ _ _
        subst hzz
        have := hc b
        simp [z0] at this) hi.n0 (by simp) (Nat.le_refl _) (ys := ys) (by rw [hv]; exact nil_source hy) (by simpa using hbig) (by simpa using h63)
  simp only [Nat.zero_add, List.take_nil, List.nil_append] at this
  exact this w m _ a h1 (h2.Sl hs)

theorem Runs.oko {x : V} {st' : St} (h : OKo P X st o x st') (hg : gd ops st o.guard = some true) (k : Runs P X ops rest ⟨setD o.dst x st'.tm, st'.ob⟩ s2) : Runs P X ops (o :: rest) st s2 :=
  fun r Q hq => WL_op h hg (k r Q hq)
end
end Go.Ev
/-! A region that draws its order: what only reads may come at any time; else one of several (calls, allocations) comes, each followed up by itself. -/
namespace Go.Ev
open Go

/-- what comes: a reading operation; one of several ('alt's in a row, closed by 'stop') -/
inductive Tm where
  | tail
  | stop
  | pur (i : Nat) (t : Tm)
  | alt (i : Nat) (t : Tm) (r : Tm)
def Tm.ids : Tm → List Nat
  | .alt i _ r => i :: r.ids
  | _ => []

section
variable {P : Program} {ops : Array Oper} {Q : Exit → Act → World → Prop}

def tmB (md : Region.Mode) (ops : Array Oper) (n : Nat) : Tm → Nat → Array Bool → Bool → Bool
  | .tail, k, listed, fst => fst && decide (k = 0) && Region.seqB md ops (ops.size - n) n listed
  | .stop, _, _, fst => !fst
  | .pur i t, k, listed, fst => fst && decide (i < n) && decide (0 < k) && (Region.ready md ops listed).contains i && Region.free md ops listed i && tmB md ops n t (k - 1) (listed.setIfInBounds i true) true
  | .alt i t r, k, listed, fst => (!fst || decide (Region.ready md ops listed = i :: r.ids)) && decide (i < n) && decide (0 < k) && tmB md ops n t (k - 1) (listed.setIfInBounds i true) true && tmB md ops n r k listed false
def tmsB (md : Region.Mode) (ops : Array Oper) (n : Nat) (t : Tm) : Bool :=
  Region.noSelect ops && decide (n < ops.size) && Region.sinkB md ops n && Region.chainB md ops n && tmB md ops n t n (Array.replicate ops.size false) true

def HeadM (P : Program) (ops : Array Oper) (Q : Exit → Act → World → Prop) (n : Nat) : Tm → (World → Prop) → Act → World → Prop
  | .tail, _, a, w => wpList P ops Q (ops.toList.drop n) a w
  | .stop, _, _, _ => True
  | .pur i t, S, a, w => ∃ oi v, ops[i]? = some oi ∧ YieldsIf P ops S oi v a ∧ HeadM P ops Q n t S (a.put oi.dst v) w
  | .alt i t r, S, a, w => wpOp P ops Q i (fun a' w' => ∃ S' : World → Prop, (∀ x, S' x → S x) ∧ S' w' ∧ HeadM P ops Q n t S' a' w') a w ∧ HeadM P ops Q n r S a w

theorem wpAnyT_tm {md : Region.Mode} {n : Nat} (hsel : Region.noSelect ops = true) (hn : n < ops.size) (hs : Region.sinkB md ops n = true) (hc : Region.chainB md ops n = true) (hQ : ∀ c a w, ¬ Q (.panic c) a w) :
    ∀ (t : Tm) (k : Nat) (S : World → Prop) (listed : Array Bool) (a : Act) (w : World), HeadInv md ops n listed → S w →
      (tmB md ops n t k listed true = true → HeadM P ops Q n t S a w → wpAnyT P md ops Q S n (k + (ops.size - n)) listed a w) ∧
      (tmB md ops n t k listed false = true → HeadM P ops Q n t S a w → ∀ j ∈ t.ids, j ∈ Region.ready md ops listed → 0 < k ∧ wpOp P ops Q j (fun a' w' => S w' ∧ wpAnyT P md ops Q S n (k - 1 + (ops.size - n)) (listed.setIfInBounds j true) a' w') a w)
  | .tail, k, S, listed, a, w, inv, hS => by
    refine ⟨fun hB h => ?_, fun hB _ => ?_⟩
    · simp only [tmB, Bool.true_and, Bool.and_eq_true, decide_eq_true_eq] at hB
      obtain ⟨rfl, hB⟩ := hB
      have h : wpList P ops Q (ops.toList.drop n) a w := h
      have hlen : (ops.toList.drop n).length = ops.size - n := by simp
      have := wpAnyT_tail (P := P) (Q := Q) (md := md) (S := S) (n := n) (ops.toList.drop n) n listed a w (Nat.le_refl _) (fun j => by simp) (fun h => by omega) inv.size (by rw [hlen]; exact hB) h
      rw [hlen] at this
      simpa using this
    · simp [tmB] at hB
  | .stop, k, S, listed, a, w, inv, hS => by
    refine ⟨fun hB => ?_, fun _ _ j hj => ?_⟩
    · simp [tmB] at hB
    · simp [Tm.ids] at hj
  | .pur i t, k, S, listed, a, w, inv, hS => by
    refine ⟨fun hB h => ?_, fun hB => ?_⟩
    · simp only [tmB, Bool.true_and, Bool.and_eq_true, decide_eq_true_eq] at hB
      obtain ⟨⟨⟨⟨hin, hk⟩, hr⟩, hf⟩, hB⟩ := hB
      obtain ⟨oi, v, hi, hy, h⟩ := h
      have hr' : i ∈ Region.ready md ops listed := by simpa using hr
      have := (wpAnyT_tm hsel hn hs hc hQ t (k - 1) S _ _ _ (inv.set hr' hin) hS).1 hB h
      rw [show k + (ops.size - n) = (k - 1 + (ops.size - n)) + 1 from by omega]
      exact wpAnyT_first hi (Region.noSelect_spec hsel) hs hc hn hin hQ _ listed a w inv (Region.free_spec hi hf) hr' hy hS this
    · simp [tmB] at hB
  | .alt i t r, k, S, listed, a, w, inv, hS => by
    have hr2 := (wpAnyT_tm hsel hn hs hc hQ r k S listed a w inv hS).2
    have here : tmB md ops n t (k - 1) (listed.setIfInBounds i true) true = true → i < n → i ∈ Region.ready md ops listed → wpOp P ops Q i (fun a' w' => ∃ S' : World → Prop, (∀ x, S' x → S x) ∧ S' w' ∧ HeadM P ops Q n t S' a' w') a w →
        wpOp P ops Q i (fun a' w' => S w' ∧ wpAnyT P md ops Q S n (k - 1 + (ops.size - n)) (listed.setIfInBounds i true) a' w') a w := fun hB hin hmem h =>
      wpOp_mono (fun a' w' ⟨S', h1, h2, h3⟩ => ⟨h1 _ h2, wpAnyT_S h1 _ _ _ _ ((wpAnyT_tm hsel hn hs hc hQ t (k - 1) S' _ a' w' (inv.set hmem hin) h2).1 hB h3)⟩) h
    refine ⟨fun hB h => ?_, fun hB h j hj hjr => ?_⟩
    · simp only [tmB, Bool.not_true, Bool.false_or, Bool.and_eq_true, decide_eq_true_eq] at hB
      obtain ⟨⟨⟨⟨hr, hin⟩, hk⟩, hB⟩, hB2⟩ := hB
      rw [show k + (ops.size - n) = (k - 1 + (ops.size - n)) + 1 from by omega]
      refine ⟨fun h0 => (by rw [hr] at h0; cases h0), fun j hj => ?_⟩
      have hmem := hj
      rw [hr] at hj
      rcases List.mem_cons.1 hj with rfl | hj
      · exact wpOp_mono (fun a' w' h' => ⟨fun _ => h'.1, h'.2⟩) (here hB hin hmem h.1)
      · exact wpOp_mono (fun a' w' h' => ⟨fun _ => h'.1, h'.2⟩) (hr2 hB2 h.2 j hj hmem).2
    · simp only [tmB, Bool.not_false, Bool.true_or, Bool.true_and, Bool.and_eq_true, decide_eq_true_eq] at hB
      obtain ⟨⟨⟨hin, hk⟩, hB⟩, hB2⟩ := hB
      rcases List.mem_cons.1 (show j ∈ i :: r.ids from hj) with rfl | hj
      · exact ⟨hk, here hB hin hjr h.1⟩
      · exact hr2 hB2 h.2 j hj hjr

theorem wp_region_tm {id : Nat} {S : World → Prop} {n : Nat} {t : Tm} {a : Act} {w : World} (hm : P.follows .mixedOrders = true) (hB : tmsB .any ops n t = true) (hQ : ∀ c a w, ¬ Q (.panic c) a w)
    (hS : S { w with drawn := w.drawn + 1 }) (h : HeadM P ops Q n t S a { w with drawn := w.drawn + 1 }) : (Code.region id ops true).wp P Q a w := by
  simp only [tmsB, Bool.and_eq_true, decide_eq_true_eq] at hB
  obtain ⟨⟨⟨⟨hsel, hn⟩, hs⟩, hc⟩, hhead⟩ := hB
  have inv0 : HeadInv .any ops n (Array.replicate ops.size false) :=
    ⟨by simp, fun j oj _ hl => (by rw [getD_replicate_false] at hl; cases hl), fun t _ ht => getD_in (by simpa using ht) (getD_replicate_false _ _)⟩
  have := (wpAnyT_tm hsel hn hs hc hQ t n S _ _ _ inv0 hS).1 hhead h
  rw [show n + (ops.size - n) = ops.size from by omega] at this
  exact wp_region_any hm (wpAny_of_T _ _ _ _ this)
end

section
variable {P : Program} {X : Ctx} {st s1 s2 s3 : St} {Q : Exit → St → Prop} {T : Nat → Option TI} {ls : List Oper} {L : List Nat}
def purs : List Nat → Tm → Tm
  | [], t => t
  | i :: A, t => .pur i (purs A t)
theorem runTk_okM (hT : TOK P T) {n0 n : Nat} {ops : Array Oper} {Qf : Exit → Act → World → Prop} {r : Tm} {w : World} {m : Mp} {cn : Nat → Cnt} :
    ∀ {A : List Nat} {st s1 : St} {a : Act}, runTk T n0 ops L A st = some s1 → Inv X w st.ob m cn → Sl X w m cn st.tm a → a.defers = [] →
      (∀ a', Sl X w m cn s1.tm a' → a'.defers = [] → HeadM P ops Qf n r (Kr X cn L w) a' w) → HeadM P ops Qf n (purs A r) (Kr X cn L w) a w
  | [], st, s1, a, h, hi, hs, hd, hk => by simp only [runTk] at h; cases h; exact hk a hs hd
  | i :: A, st, s1, a, h, hi, hs, hd, hk => by
    simp only [runTk] at h
    split at h
    · cases h
    · rename_i o ho
      split at h
      · rename_i hg
        split at h
        · rename_i hp
          split at h
          · rename_i x st' hx
            obtain ⟨u, hu, hR⟩ := (opB_okp (X := X) (L := L) hT hx hp.1 hp.2).1 w m cn a hi hs
            refine ⟨o, u, ho, .inl ⟨gd_ok hs hg, hu⟩, runTk_okM hT h hi ?_ (put_defers _ _ hd) hk⟩
            have := hs.set o.dst hR
            cases hod : o.dst <;> simpa [setD, hod] using this
          · cases h
        · cases h
      · rename_i hg
        refine ⟨o, undef, ho, .inr ⟨gd_ok hs hg, rfl⟩, runTk_okM hT h hi ?_ (put_defers _ _ hd) hk⟩
        have := hs.set o.dst (x := .tup []) (u := undef) (.tup .lnil)
        cases hod : o.dst <;> simpa [setD, hod] using this
      · cases h

/-- what comes, the objects L out of reach meanwhile -/
inductive StepsM (P : Program) (T : Nat → Option TI) (n0 : Nat) (ops : Array Oper) (L : List Nat) : Tm → St → St → Prop
  | tail {s : St} : StepsM P T n0 ops L .tail s s
  | stop {s s2 : St} : StepsM P T n0 ops L .stop s s2
  | sw {a b : Nat} {t : Tm} {s s' s2 : St} (hb : n0 ≤ a ∧ n0 ≤ b ∧ a < s.ob.length ∧ b < s.ob.length) (hl : a ∉ L ∧ b ∉ L) (he : s.swap a b = s') (k : StepsM P T n0 ops L t s' s2) : StepsM P T n0 ops L t s s2
  | pur {A : List Nat} {t r : Tm} {s s1 s2 : St} (h : runTk T n0 ops L A s = some s1) (he : t = purs A r) (k : StepsM P T n0 ops L r s1 s2) : StepsM P T n0 ops L t s s2
  | alt {i : Nat} {o : Oper} {t r : Tm} {s s' s1 s2 : St} (ho : ops[i]? = some o) (hL : ∀ id ∈ L, id < s.ob.length)
      (h : ∀ X' : Ctx, X'.n0 = s.ob.length → Runs P X' ops [o] ⟨s.tm, hid L s.ob⟩ s') (he : (⟨s'.tm, unh s.ob L s'.ob⟩ : St) = s1) (k : StepsM P T n0 ops L t s1 s2) (kr : StepsM P T n0 ops L r s s2) : StepsM P T n0 ops L (.alt i t r) s s2

theorem stepsM_ok (hT : TOK P T) {n n0 : Nat} (hX : X.n0 = n0) {ops : Array Oper} {Qf : Exit → Act → World → Prop} {l : Tm} (h : StepsM P T n0 ops L l st s1) :
    ∀ {w : World} {m : Mp} {cn : Nat → Cnt} {a : Act}, Inv X w st.ob m cn → Sl X w m cn st.tm a → a.defers = [] →
      (∀ w m cn a, Inv X w s1.ob m cn → Sl X w m cn s1.tm a → a.defers = [] → wpList P ops Qf (ops.toList.drop n) a w) → HeadM P ops Qf n l (Kr X cn L w) a w := by
  induction h with
  | tail => intro w m cn a hi hs hd hk; exact hk w m cn a hi hs hd
  | stop => intro w m cn a hi hs hd hk; trivial
  | @sw a b t s s' s2 hb hl he k ih =>
    intro w m cn act hi hs hd hk
    subst he
    obtain ⟨g1, g2, g3⟩ := swap_inv a b (by rw [hX]; exact hb) hi hs
    have hKr : Kr X (fun id => cn (swp a b id)) L w = Kr X cn L w := by
      funext x
      refine propext ⟨fun h => ⟨h.1, fun bl hbl hc => h.2 bl hbl ?_⟩, fun h => ⟨h.1, fun bl hbl hc => h.2 bl hbl ?_⟩⟩
      · rw [g1]
        refine hc.imp id fun ⟨id, hid, h0⟩ => ⟨id, hid, ?_⟩
        have e1 : id ≠ a := fun e => hl.1 (by rw [← e]; exact hid)
        have e2 : id ≠ b := fun e => hl.2 (by rw [← e]; exact hid)
        show 0 < cn (swp a b id) bl
        rw [show swp a b id = id from by unfold swp; rw [if_neg e1, if_neg e2]]; exact h0
      · rw [g1] at hc
        refine hc.imp id fun ⟨id, hid, h0⟩ => ⟨id, hid, ?_⟩
        have e1 : id ≠ a := fun e => hl.1 (by rw [← e]; exact hid)
        have e2 : id ≠ b := fun e => hl.2 (by rw [← e]; exact hid)
        have h0 : 0 < cn (swp a b id) bl := h0
        rwa [show swp a b id = id from by unfold swp; rw [if_neg e1, if_neg e2]] at h0
    have := ih g2 g3 hd hk
    rwa [hKr] at this
  | @pur A l r s s1 s2 h he k ih =>
    intro w m cn a hi hs hd hk
    subst he
    exact runTk_okM hT h hi hs hd fun a' hs2 hd2 => ih (runTk_ob h ▸ hi) hs2 hd2 hk
  | @alt i o t r s s' s1 s2 ho hL h he k kr ih ihr =>
    intro w m cn a hi hs hd hk
    subst he
    refine ⟨?_, ihr hi hs hd hk⟩
    obtain ⟨h1, h2⟩ := hi.hide L
    have hs' : Sl (ctxH X w m cn L s.ob.length) w m (cnH L cn) s.tm a := hs.mono (Nat.le_refl _) (fun b hb hf => ⟨h2 b hb hf, rfl⟩) (fun _ _ => rfl) trivial (fun _ _ h => ⟨h, rfl⟩)
    have hr := h (ctxH X w m cn L s.ob.length) rfl [] (fun e st => e = .normal ∧ st = s') (WL_nil ⟨rfl, rfl⟩) w m (cnH L cn) a h1 hs' hd
    have step : wpList P ops (post (ctxH X w m cn L s.ob.length) (fun e st => e = .normal ∧ st = s')) [o] a w := hr
    have fin : ∀ a' w', post (ctxH X w m cn L s.ob.length) (fun e st => e = .normal ∧ st = s') .normal a' w' → ∃ S' : World → Prop, (∀ x, S' x → Kr X cn L w x) ∧ S' w' ∧ HeadM P ops Qf n t S' a' w' := by
      rintro a' w' ⟨st2, m', cn', ⟨_, rfl⟩, hi', hs2, hd'⟩
      obtain ⟨u1, u2, u3, u4⟩ := hi.unhide hL hi'
      refine ⟨Kr X (cnU L cn cn') L w', fun x hx => ⟨Nat.le_trans hi'.le hx.1, fun b hb hc => ?_⟩, Kr.refl _,
        ih u1 (hs2.mono (Nat.le_refl _) (fun b _ hf => ⟨u2 b hf, rfl⟩) (fun _ _ => rfl) trivial (fun _ _ h => ⟨h, rfl⟩)) hd' hk⟩
      rw [hx.2 b (Nat.lt_of_lt_of_le hb hi'.le) (hc.imp (u4 b hb) (fun ⟨id, hid, hc⟩ => ⟨id, hid, by unfold cnU; rw [if_pos hid]; exact hc⟩)), u3 b hb hc]
    show wpOp P ops Qf i _ a w
    unfold wpOp
    simp only [ho]
    unfold wpList at step
    split
    · rename_i hw
      rw [if_pos hw] at step
      rcases step with step | ⟨_, a', w', st2, m', cn', ⟨h0, _⟩, _⟩
      · exact .inl (wp_mono2 (fun a' w' h => fin a' w' h) (fun e a' w' hne ⟨st2, m', cn', ⟨h0, _⟩, _⟩ => absurd h0 hne) step)
      · cases h0
    · rename_i hw
      rw [if_neg hw] at step
      exact fin _ _ step

theorem W_tms {id n : Nat} {l : Tm} (hm : P.follows .mixedOrders = true) (hB : tmsB .any ls.toArray n l = true) (hT : TOK P T) {n0 : Nat} (hX : X.n0 = n0)
    (hH : StepsM P T n0 ls.toArray L l st s2) (h2 : Runs P X ls.toArray (ls.drop n) s2 s3) (hq : Q .normal s3) : W P X (.region id ls.toArray true) st Q := by
  intro w m cn a hi hs hd
  have hi' : Inv X { w with drawn := w.drawn + 1 } st.ob m cn := hi.drew
  have hs' : Sl X { w with drawn := w.drawn + 1 } m cn st.tm a := Ext.drew.Sl hs
  refine Code.wp_mono (Q := normQ (post X Q)) (fun e a' w' h => ?_) ?_
  · cases e <;> first | exact h | exact h.elim
  refine wp_region_tm (S := Kr X cn L { w with drawn := w.drawn + 1 }) hm hB (fun _ _ _ h => h) (Kr.refl _) ?_
  refine stepsM_ok hT hX hH hi' hs' hd (fun w3 m3 cn3 a3 hi3 hs3 hd3 => ?_)
  have := h2 [] (fun e s => e = .normal ∧ Q .normal s) (WL_nil ⟨rfl, hq⟩) w3 m3 cn3 a3 hi3 hs3 hd3
  rw [List.append_nil] at this
  refine wpList_mono2 (fun a w ⟨s, m, cn, ⟨_, h⟩, r⟩ => ⟨s, m, cn, h, r⟩) (fun e a w hne ⟨s, m, cn, ⟨h0, _⟩, _⟩ => absurd h0 hne) _ _ _ this

theorem W_tmK {id : Nat} {y : Code} (n : Nat) (l : Tm) (ks : List Nat) (L : List Nat) (hm : P.follows .mixedOrders = true) (hB : tmsB .any ls.toArray n l = true) (hT : TOK P T) {n0 : Nat} (hX : X.n0 = n0)
    (hH : StepsM P T n0 ls.toArray L l st s2) (h2 : Runs P X ls.toArray (ls.drop n) s2 s3) (hk : W P X y (s3.keep ks) Q) : W P X (.seq (.region id ls.toArray true) y) st Q :=
  W_seq (W_tms hm hB hT hX hH h2 (W_le (Le.keep ks s3) hk))
end
end Go.Ev
/-! An operation of which what it makes is frozen at once (a literal list that is only read). -/
namespace Go.Ev
open Go
section
variable {P : Program} {X : Ctx} {T : Nat → Option TI} {ops : Array Oper} {rest : List Oper} {st s2 : St} {o : Oper}
theorem OKo.frz (hT : TOK P T) {x r : V} {st2 : St} {ob2 : List Ob} (h : opB T 0 ⟨fzL st.tm, []⟩ o.op = some (x, st2)) (ht : takeV 0 st2.ob x = some (r, ob2)) (hl : r.lim 0 = true) : OKo P X st o r.fz st := by
  intro w m cn a hi hs
  obtain ⟨hinv, hfr⟩ := callee_inv hi (ps := []) List.nodup_nil (fun id h => by simp at h)
  have hs0 : Sl (ctxC X w m cn []) w (fun q => (([] : List Nat)[q]?).bind m) (cnIn [] cn) (fzL st.tm) a := R.fz hfr hs (fun _ _ h => absurd h (by simp [z0])) _
  obtain ⟨nx, u, w', m', cn', hrun, hnx, hi', hs', hR⟩ := opB_ok (X := ctxC X w m cn []) hT (n0 := 0) rfl h w _ _ a hinv hs0
  obtain ⟨cn2, d, a1, a2, a3, a4, a5⟩ := takeV_ok 0 x ht (N := st2.ob.length) hi' (Nat.le_refl _) hR
  have htrim := a1.trim (n := 0) (Nat.zero_le _) (Nat.zero_le _) (fun o ho => by simp at ho)
  have hRl := R.limM (n := 0) (m' := fun id => if id < 0 then m' id else none) (fun id hid => by simp at hid) a3 hl
  have h5 : ∀ z, d z ≤ cn2 st2.ob.length z := fun z => by have := a4 z; omega
  have htrim : Inv (ctxC X w m cn []) w' [] (fun id => if id < 0 then m' id else none) cn2 := htrim
  have hnewb : ∀ b, 0 < d b → w.heap.size ≤ b := by
    intro b hb
    obtain ⟨_, g2⟩ := htrim.new _ b (Nat.lt_of_lt_of_le hb (h5 b))
    rcases g2 with g2 | ⟨id, g2⟩
    · exact g2
    · rw [cnIn_none rfl] at g2; exact absurd g2 (by simp [z0])
  obtain ⟨c1, c2, c3, c4⟩ := after_call hi (ps := []) List.nodup_nil (fun id h => by simp at h) htrim hRl rfl (Nat.zero_le _) h5 (Nat.le_refl _)
  replace c1 : Inv X w' st.ob m _ := c1
  obtain ⟨cn3, b1, b2, b3⟩ := c1.freezeN (Nat.le_refl _) c3 c4 (fun b hb => Nat.le_trans hi.le (hnewb b hb))
  rw [fz_mapId0] at b3
  exact ⟨nx, u, w', m, cn3, hrun, hnx, b1, b2.Sl (c2.Sl hs), b3⟩
theorem Runs.frz (hT : TOK P T) {x r r' : V} {st2 : St} {ob2 : List Ob} (h : opB T 0 ⟨fzL st.tm, []⟩ o.op = some (x, st2)) (ht : takeV 0 st2.ob x = some (r, ob2)) (hl : r.lim 0 = true) (hr : r.fz = r')
    (hg : gd ops st o.guard = some true) (k : Runs P X ops rest ⟨setD o.dst r' st.tm, st.ob⟩ s2) : Runs P X ops (o :: rest) st s2 := Runs.oko (hr ▸ OKo.frz hT h ht hl) hg k
end
end Go.Ev
/-! Contracts of which the result is told by a property; cuts. -/
namespace Go.Ev
open Go
def CtE (P : Program) (f : FuncId) (args : List V) (ob : List Ob) (S : V → List Ob → Prop) : Prop :=
  ∀ (w : World) (fr : Nat → Prop) (m : Mp) (cn : Nat → Cnt) (us : List Value), (∀ b, fr b → b < w.heap.size ∧ ∀ id, cn id b = 0) →
    Inv ⟨w, fr, fun b => ∃ id, 0 < cn id b, m, ob.length⟩ w ob m cn → R w (frz ⟨w, fr, fun b => ∃ id, 0 < cn id b, m, ob.length⟩ cn) m (.list args us) z0 →
    Calls P f us.toArray w fun e w' => ∃ r ob' u m' cn' d, S r ob' ∧ e = .returned u ∧ Inv ⟨w, fr, fun b => ∃ id, 0 < cn id b, m, ob.length⟩ w' ob' m' cn' ∧
      R w' (frz ⟨w, fr, fun b => ∃ id, 0 < cn id b, m, ob.length⟩ cn') m' (.one r u) d ∧ ob'.length = ob.length ∧
      ∃ n, ob.length ≤ n ∧ ∀ z, d z ≤ cn' n z
def DoneE (T : Nat → Option TI) (fn : Func) (n0 : Nat) (S : V → List Ob → Prop) (e : Exit) (st : St) : Prop := ∃ r ob', S r ob' ∧ Done T fn n0 r ob' e st
theorem CtE.of {P : Program} {f : FuncId} {args : List V} {ob ob' : List Ob} {r : V} {S : V → List Ob → Prop} (h : Ct P f args ob r ob') (hs : S r ob') : CtE P f args ob S := fun w fr m cn us h1 h2 h3 =>
  Calls.mono (h w fr m cn us h1 h2 h3) fun e w' ⟨u, m', cn', d, h⟩ => ⟨r, ob', u, m', cn', d, hs, h⟩
theorem CtE.mono {P : Program} {f : FuncId} {args : List V} {ob : List Ob} {S S' : V → List Ob → Prop} (hs : ∀ r ob', S r ob' → S' r ob') (h : CtE P f args ob S) : CtE P f args ob S' := fun w fr m cn us h1 h2 h3 =>
  Calls.mono (h w fr m cn us h1 h2 h3) fun e w' ⟨r, ob', u, m', cn', d, hq, h⟩ => ⟨r, ob', u, m', cn', d, hs _ _ hq, h⟩
theorem Ct_bodyE0 {P : Program} {T : Nat → Option TI} (hT : TOK P T) {f : FuncId} {fn : Func} {c : Code} (hf : P.funcs[f]? = some fn) (hb : fn.body = some c) {args : List V} {ob : List Ob} {S : V → List Ob → Prop}
    (h : ∀ X : Ctx, X.n0 = ob.length → W P X c ⟨args ++ List.replicate (fn.ntmps - args.length) (.tup []), ob⟩ (DoneE T fn ob.length S)) : CtE P f args ob S := by
  intro w fr m cn us hfr hi hR
  have hlen := hR.len
  refine calls_of_wp hf hb ?_
  refine Code.wp_mono ?_ (h _ rfl w m cn ⟨us.toArray ++ Array.replicate (fn.ntmps - us.toArray.size) undef, []⟩ hi ?_ rfl)
  · rintro e a' w' ⟨st, m', cn', ⟨r, ob', hQ, he, xs, r2, ob2, h1, h2, h3, h4, h5, h6, h7⟩, hi', hs', hd'⟩
    obtain ⟨u, hu, hRu⟩ := results_ok hT hi' hs' h1
    obtain ⟨cn2, d, a1, a2, a3, a4, a5⟩ := takeV_ok ob.length (one? xs) h2 (N := st.ob.length) hi' (Nat.le_refl _) hRu
    have htrim := a1.trim (n := ob.length) (Nat.le_refl _) h4 (fun o ho => by rw [h5] at ho; exact List.all_eq_true.1 h6 o ho)
    rw [h5] at htrim
    have hfin : (fun (e : Ending) (w' : World) => ∃ r ob' u m' cn' d, S r ob' ∧ e = .returned u ∧ Inv ⟨w, fr, fun b => ∃ id, 0 < cn id b, m, ob.length⟩ w' ob' m' cn' ∧
        R w' (frz ⟨w, fr, fun b => ∃ id, 0 < cn id b, m, ob.length⟩ cn') m' (.one r u) d ∧ ob'.length = ob.length ∧ ∃ n, ob.length ≤ n ∧ ∀ z, d z ≤ cn' n z) (.returned u) w' :=
      ⟨r, ob', u, _, cn2, d, hQ, rfl, htrim, h3 _ _ _ _ _ (R.limM (n := ob.length) (fun id hid => by simp [hid]) a3 h7), by rw [← h5, List.length_take]; omega, st.ob.length, by omega, fun z => by have := a4 z; omega⟩
    rcases he with rfl | rfl
    · exact ⟨hd', u, hu, hfin⟩
    · exact ⟨hd', u, hu, hfin⟩
  · have := R.ljoin hR (replicate_R (w := w) (fr := frz ⟨w, fr, fun b => ∃ id, 0 < cn id b, m, ob.length⟩ cn) (m := m) (fn.ntmps - args.length))
    have h2 := this.zero fun z => by simp [z0]
    simp only [Sl]
    rw [show (us.toArray ++ Array.replicate (fn.ntmps - us.toArray.size) undef).toList = us ++ List.replicate (fn.ntmps - args.length) undef from by simp [hlen]]
    exact h2

theorem Ct_bodyE {P : Program} {T : Nat → Option TI} (hT : TOK P T) {f : FuncId} {fn : Func} {c : Code} (hf : P.funcs[f]? = some fn) (hb : fn.body = some c) (n : Nat) (hn : fn.ntmps = n) {args : List V} (hl : Nat.ble args.length n = true) {ob : List Ob} {S : V → List Ob → Prop}
    (h : ∀ X : Ctx, X.n0 = ob.length → W P X c ⟨sp n (argA 0 args), ob⟩ (DoneE T fn ob.length S)) : CtE P f args ob S := by
  refine Ct_bodyE0 hT hf hb fun X hX => W_le (Le.less ?_ fun i y hy => ?_) (h X hX)
  · have := Nat.le_of_ble_eq_true hl
    rw [sp_length, List.length_append, List.length_replicate]; omega
  · rw [sp_get] at hy
    split at hy
    · rw [lkA_arg] at hy
      simp at hy
      by_cases hi : i < args.length
      · left
        rw [List.getElem?_append_left hi, List.getElem?_eq_getElem hi]
        rw [List.getElem?_eq_getElem hi] at hy
        simpa using hy
      · right
        rw [List.getElem?_eq_none (by omega)] at hy
        simpa using hy.symm
    · cases hy


section
variable {P : Program} {X : Ctx} {ops : Array Oper} {rest l : List Oper} {st s1 : St} {Q : Exit → St → Prop} {o : Oper} {T : Nat → Option TI}
theorem WL_callE {fo : Operand} {as : Array Operand} {ts : Array TypeId} {f : FuncId} {first cap : List V} (ps : List Nat) {S : V → List Ob → Prop}
    (hct : CtE P f (mapL (gIn ps) (first ++ as.toList.map (val st) ++ cap)) (obIn st.ob ps) S)
    (ho : o.op = .call { callee := .value fo, args := as, argTypes := ts }) (hg : gd ops st o.guard = some true) (hf : val st fo = .clo (.func f) first cap) (hF : Callable P f)
    (hn : ps.Nodup) (hlt : ∀ id ∈ ps, id < st.ob.length)
    (hk : ∀ r obc, S r obc → WL P X ops rest ⟨setD o.dst (nameV (wb st.ob ps (obc.map (mapO (gOut ps)))) (r.mapId (gOut ps))).1 st.tm, (nameV (wb st.ob ps (obc.map (mapO (gOut ps)))) (r.mapId (gOut ps))).2⟩ Q) :
    WL P X ops (o :: rest) st Q := by
  intro w m cn a hi hs hd
  refine wpList_step fun K hK => ?_
  rw [gd_ok hs hg, if_pos rfl]
  -- the arguments
  have hfv := val_ok hs fo
  rw [hf] at hfv
  obtain ⟨us1, vs1, he, hfirst, hcap⟩ : ∃ us1 vs1, a.eval fo = .func (.func f) (List.toArray us1) (List.toArray vs1) ∧ R w (frz X cn) m (.list first us1) z0 ∧ R w (frz X cn) m (.list cap vs1) z0 := by
    generalize a.eval fo = u at hfv
    generalize hz : z0 = c at hfv
    cases hfv with
    | clo h1 h2 he =>
      subst hz
      exact ⟨_, _, rfl, h1.zero fun z => by have := he z; simp [z0] at this; omega, h2.zero fun z => by have := he z; simp [z0] at this; omega⟩
  have hargs : ∀ l : List Operand, R w (frz X cn) m (.list (l.map (val st)) (l.map a.eval)) z0 := by
    intro l
    induction l with
    | nil => exact .lnil
    | cons x l ih => exact .lcons (val_ok hs x) ih (fun _ => rfl)
  have hall := ((hfirst.ljoin (hargs as.toList)).ljoin hcap).zero fun z => by simp [z0]
  obtain ⟨hinv, hfr⟩ := callee_inv hi hn hlt
  have hR2 : R w (frz (ctxC X w m cn ps) (cnIn ps cn)) m (.list (first ++ as.toList.map (val st) ++ cap) (us1 ++ as.toList.map a.eval ++ vs1)) z0 :=
    hall.mono (Nat.le_refl _) (fun b hb hf => ⟨hfr b hb hf, rfl⟩) (fun _ _ => rfl) trivial (fun _ _ h => ⟨h, rfl⟩)
  have hR3 := R.mapId (g := gIn ps) (m' := fun q => (ps[q]?).bind m) (fun id q hg => by rw [gIn_spec hg]; rfl) hR2
  have hlenO : (obIn st.ob ps).length = ps.length := by simp [obIn]
  have hcall := hct w (fun b => b < w.heap.size ∧ frz X cn b) (fun q => (ps[q]?).bind m) (cnIn ps cn) (us1 ++ as.toList.map a.eval ++ vs1)
    (fun b hb => ⟨hb.1, fun q => by
      cases h : ps[q]? with
      | none => rw [cnIn_none h]
      | some id => rw [cnIn_some h]; exact hb.2.2 id⟩) (by rw [hlenO]; exact hinv) (by rw [hlenO]; exact hR3)
  unfold Oper.wp
  have hrun : (execOp a.eval o).run P w = .ok (.enter f (us1 ++ as.toList.map a.eval ++ vs1).toArray) w := by
    simp only [execOp, ho, resolve, Deferred.ofValue, he, Sem.run_bind, Sem.run_pure, Result.andThen_ok, invoke]
    rw [run_callFunc hF]
    congr 2
    apply Array.ext'
    simp
  rw [hrun]
  refine Calls.mono hcall ?_
  rintro e w' ⟨r, obc, u, mc, cnc, d, hQ, rfl, h1, h2, h3, n, h4, h5⟩
  rw [hlenO] at h1 h2 h3 h4
  -- the number at which the result's blocks are kept
  have hN : st.ob.length ≤ (nameV (wb st.ob ps (obc.map (mapO (gOut ps)))) (r.mapId (gOut ps))).2.length := by
    have := nameV_len (wb st.ob ps (obc.map (mapO (gOut ps)))) (r.mapId (gOut ps))
    rw [wb_length] at this
    exact this
  obtain ⟨a1, a2, a3, a4⟩ := after_call hi hn hlt h1 h2 h3 h4 h5 hN
  obtain ⟨m2, cn2, b1, b2, b3, _, _⟩ := nameV_ok _ a1 (Nat.le_refl _) a3 a4
  have hs2 : Sl X w' m2 cn2 (setD o.dst (nameV (wb st.ob ps (obc.map (mapO (gOut ps)))) (r.mapId (gOut ps))).1 st.tm) (a.put o.dst u) := by
    have := (b2.Sl (a2.Sl hs)).set o.dst b3
    cases hod : o.dst <;> simpa [setD, hod] using this
  have hd2 : (a.put o.dst u).defers = [] := by cases hod : o.dst <;> simpa [Act.put] using hd
  exact hK _ _ (hk r obc hQ w' m2 cn2 _ b1 hs2 hd2)

/-- a call told by a property, then the rest -/
theorem WL_cE {fo : Operand} {as : Array Operand} {ts : Array TypeId} {f : FuncId} {first cap args' : List V} {obi : List Ob} (ps : List Nat) {S : V → List Ob → Prop}
    (ho : o.op = .call { callee := .value fo, args := as, argTypes := ts }) (hg : gd ops st o.guard = some true) (hf : val st fo = .clo (.func f) first cap)
    (ha : mapL (gIn ps) (first ++ as.toList.map (val st) ++ cap) = args') (hi : obIn st.ob ps = obi)
    (hct : CtE P f args' obi S) (hF : Callable P f) (hn : ps.Nodup) (hlt : ∀ id ∈ ps, id < st.ob.length)
    (hk : ∀ r obc, S r obc → WL P X ops rest (callEnd st o.dst ps r obc) Q) : WL P X ops (o :: rest) st Q := by
  subst ha; subst hi
  exact WL_callE ps hct ho hg hf hF hn hlt hk
theorem WL_le' (h : Le X st s1) (hk : WL P X ops l s1 Q) : WL P X ops l st Q := WL_le h hk
theorem WL_go (k : Nat) (h : Runs P X ops (l.take k) st s1) (hk : WL P X ops (l.drop k) s1 Q) : WL P X ops l st Q := by
  have := h (l.drop k) Q hk
  rwa [List.take_append_drop] at this
theorem WL_fin (h : Runs P X ops l st s1) (hk : Q .normal s1) : WL P X ops l st Q := by
  have := h [] Q (WL_nil hk)
  rwa [List.append_nil] at this
theorem W_regE {id : Nat} (h : WL P X ops ops.toList st Q) : W P X (.region id ops false) st Q := W_region h
theorem W_rseqL {id : Nat} {y : Code} (ks : List Nat) (h : WL P X ops ops.toList st (thenQ (fun s => W P X y (s.keep ks) Q) Q)) : W P X (.seq (.region id ops false) y) st Q :=
  W_seq (W_region fun w m cn a hi hs hd => wpList_mono2 (fun _ _ ⟨s, m, cn, h, h1, h2, h3⟩ => ⟨s, m, cn, W_le (Le.keep ks s) h, h1, h2, h3⟩) (fun e _ _ hne ⟨s, m, cn, h, r⟩ => by
    cases e with
    | normal => exact absurd rfl hne
    | _ => exact ⟨s, m, cn, h, r⟩) _ _ _ (h w m cn a hi hs hd))
/-- a piece of code, behind which only a property of the state is kept -/
theorem W_cutE {α : Type} {x y : Code} (ks : List Nat) (u : α → List (Nat × V)) (uo : α → List (Nat × Ob)) (I : α → Prop) {f : α → St} (hf : ∀ a, (st.keep ks).upd (u a) (uo a) = f a)
    (hx : W P X x st (thenQ (fun s => ∃ a, Le X s (f a) ∧ I a) Q)) (hy : ∀ a, I a → W P X y (f a) Q) : W P X (.seq x y) st Q :=
  W_seq (W_mono hx fun e s h => by
    cases e with
    | normal => obtain ⟨a, h1, h2⟩ := h; exact W_le h1 (hy a h2)
    | _ => exact h)
theorem W_cutT {α : Type} {x y : Code} (ks : List Nat) (u : α → List (Nat × V)) (uo : α → List (Nat × Ob)) (I : α → Prop) {f : α → St} (hf : ∀ a, (st.keep ks).upd (u a) (uo a) = f a)
    (hx : W P X x st (thenQ (fun s => ∃ a, Le X s (f a) ∧ I a) Q)) (hy : ∀ a, I a → W P X y (f a) Q) : W P X x st (thenQ (fun s => W P X y s Q) Q) :=
  W_mono hx fun e s h => by
    cases e with
    | normal => obtain ⟨a, h1, h2⟩ := h; exact W_le h1 (hy a h2)
    | _ => exact h
theorem cut_end {α : Type} {f : α → St} {I : α → Prop} {s : St} (a : α) (ks : List Nat) (h : s.keep ks = f a) (hI : I a) : ∃ a, Le X s (f a) ∧ I a := ⟨a, Le.trans (Le.keep ks s) (Le.of_eq h), hI⟩
theorem cut_endT {α : Type} {f : α → St} {I : α → Prop} {s : St} (a : α) (ks : List Nat) (n : Nat) (hn0 : X.n0 ≤ n) (hn : n ≤ s.ob.length) (h : (s.keep ks).trim n = f a) (hI : I a) : ∃ a, Le X s (f a) ∧ I a :=
  ⟨a, Le.trans (Le.keep ks s) (Le.trans (Le.trim n hn0 _ hn) (Le.of_eq h)), hI⟩
theorem DoneE.ret {fn : Func} {n0 : Nat} {S : V → List Ob → Prop} {r' : V} {ob'' : List Ob} (h : doneR T fn n0 st = some (r', ob'')) (hs : S r' ob'') : DoneE T fn n0 S .ret st := ⟨_, _, hs, W_retR h (Wk.refl _) rfl⟩
theorem DoneE.nrm {fn : Func} {n0 : Nat} {S : V → List Ob → Prop} {r' : V} {ob'' : List Ob} (h : doneR T fn n0 st = some (r', ob'')) (hs : S r' ob'') : DoneE T fn n0 S .normal st := ⟨_, _, hs, W_endR h (Wk.refl _) rfl⟩
end
end Go.Ev
