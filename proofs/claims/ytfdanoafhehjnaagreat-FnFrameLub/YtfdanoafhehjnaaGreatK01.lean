/- Part 2 of what the proofs lean on: an evaluator of Go functions over abstract values. Conditions: none. -/
import Derived.Test.YtfdanoafhehjnaaGreatK00
set_option linter.all false
set_option linter.unusedVariables false
set_option linter.unusedSimpArgs false
set_option maxHeartbeats 2000000
set_option maxRecDepth 100000
namespace Go.Ev
open Go

mutual
/-- other numbers for the objects (what has none is junk) -/
def V.mapId (g : Nat → Option Nat) : V → V
  | .ptr id i j => match g id with | some q => .ptr q i j | none => .junk
  | .arr id o n => match g id with | some q => .arr q o n | none => .junk
  | .agg xs => .agg (mapL g xs)
  | .tup xs => .tup (mapL g xs)
  | .clo f xs ys => .clo f (mapL g xs) (mapL g ys)
  | .ifc t x => .ifc t (x.mapId g)
  | x => x
def mapL (g : Nat → Option Nat) : List V → List V
  | [] => []
  | x :: xs => x.mapId g :: mapL g xs
end

theorem mapL_map (g : Nat → Option Nat) (xs : List V) : mapL g xs = xs.map (V.mapId g) := by
  induction xs with
  | nil => rfl
  | cons x xs ih => simp [mapL, ih]

theorem mapL_append (g : Nat → Option Nat) (xs ys : List V) : mapL g (xs ++ ys) = mapL g xs ++ mapL g ys := by simp [mapL_map]

theorem mapId_cells (g : Nat → Option Nat) (x : V) : (x.mapId g).cells = mapL g x.cells := by
  cases x with
  | ptr id i j => simp only [V.mapId, V.cells, mapL]; cases g id <;> rfl
  | arr id o n => simp only [V.mapId, V.cells, mapL]; cases g id <;> rfl
  | _ => rfl

theorem mapL_flat (g : Nat → Option Nat) (xs : List V) : flat (mapL g xs) = mapL g (flat xs) := by
  induction xs with
  | nil => rfl
  | cons x xs ih => rw [mapL, flat_cons, flat_cons, ih, mapL_append, mapId_cells]

theorem uni_mapL {k : Nat} {xs : List V} (h : uni k xs) (g : Nat → Option Nat) : uni k (mapL g xs) := by
  intro x hx
  rw [mapL_map] at hx
  obtain ⟨y, hy, rfl⟩ := List.mem_map.1 hx
  rw [mapId_cells, mapL_map, List.length_map]
  exact h y hy

def mapO (g : Nat → Option Nat) : Ob → Ob
  | none => none
  | some (k, xs) => some (k, mapL g xs)

def J.mapId (g : Nat → Option Nat) : J → J
  | .one x u => .one (x.mapId g) u
  | .cells b o xs => .cells b o (mapL g xs)
  | .list xs us => .list (mapL g xs) us

section
variable {w : World} {fr : Nat → Prop} {m : Mp}

theorem R.mapId {g : Nat → Option Nat} {m' : Mp} (hm : ∀ id q, g id = some q → m' q = m id) {j : J} {c : Cnt} (h : R w fr m j c) : R w fr m' (j.mapId g) c := by
  induction h with
  | junk => exact .junk
  | bool => exact .bool _
  | int => exact .int _ _
  | str => exact .str _
  | raw u h => exact .raw u h
  | agg _ ih => exact .agg (ih hm)
  | tup _ ih => exact .tup (ih hm)
  | nil => exact .nil
  | nilz => exact .nilz
  | frz hl hb hk hn h _ => exact .frz hl hb hk hn h
  | own hb hs hk hn h hc _ => exact .own hb hs hk hn h hc
  | bx hb hs hk h hc _ => exact .bx hb hs hk h hc
  | fp hl hb h _ => exact .fp hl hb h
  | fmap hl hb he h => exact .fmap hl hb he h
  | @ptr m id i j b k h =>
    show R w fr m' (.one (V.mapId g (.ptr id i j)) _) _
    simp only [V.mapId]
    split
    · rename_i q hq; exact .ptr (by rw [hm _ _ hq]; exact h)
    · exact .junk
  | @arr m id o n b k cap cur e h h1 h2 h3 =>
    show R w fr m' (.one (V.mapId g (.arr id o n)) _) _
    simp only [V.mapId]
    split
    · rename_i q hq; exact .arr (by rw [hm _ _ hq]; exact h) h1 h2 h3
    · exact .junk
  | @arrz m id o b k cap cur e off h h1 h2 =>
    show R w fr m' (.one (V.mapId g (.arr id o 0)) _) _
    simp only [V.mapId]
    split
    · rename_i q hq; exact .arrz (by rw [hm _ _ hq]; exact h) h1 h2
    · exact .junk
  | @arrn m id o =>
    show R w fr m' (.one (V.mapId g (.arr id o 0)) _) _
    simp only [V.mapId]
    split
    · exact .arrn
    · exact .junk
  | clo h1 h2 he ih1 ih2 => exact .clo (ih1 hm) (ih2 hm) he
  | ifc h ih => exact .ifc (ih hm)
  | cnil => exact .cnil
  | ccons hc h1c h1 h2 he ih1 ih2 => exact .ccons hc h1c (ih1 hm) (ih2 hm) he
  | lnil => exact .lnil
  | lcons h1 h2 he ih1 ih2 => exact .lcons (ih1 hm) (ih2 hm) he

end

/-! names for what is handed back -/

mutual
def nameV (ob : List Ob) : V → V × List Ob
  | .lst true k xs => (.arr ob.length 0 xs.length, ob ++ [some (k, xs)])
  | .bx k x => (.ptr ob.length 0 0, ob ++ [some (k, [x])])
  | .agg xs => let (ys, ob') := nameL ob xs; (.agg ys, ob')
  | .tup xs => let (ys, ob') := nameL ob xs; (.tup ys, ob')
  | .clo f xs ys => (if freeL xs && freeL ys then .clo f xs ys else .junk, ob)
  | .ifc t x => (if x.free then .ifc t x else .junk, ob)
  | x => (x, ob)
def nameL (ob : List Ob) : List V → List V × List Ob
  | [] => ([], ob)
  | x :: xs => let (y, ob1) := nameV ob x; let (ys, ob2) := nameL ob1 xs; (y :: ys, ob2)
end

section
variable {X : Ctx} {w : World} {ob : List Ob} {m : Mp} {cn : Nat → Cnt}

/-- one owned list gets an object of its own, out of what is kept at N -/
theorem Inv.name (hi : Inv X w ob m cn) {N k b : Nat} {xs : List V} {cur : Array Value} {e : TypeId} {c d : Cnt} (hN : ob.length < N) (hb : w.heap[b]? = some (.cells cur e (0, 0))) (hk : uni k xs)
    (hl : xs.length * k ≤ cur.size) (hR : R w (frz X cn) noIds (.cells b 0 (flat xs)) c) (hc : ∀ x, d x = c x + if x = b then 1 else 0) (hd : ∀ x, d x ≤ cn N x) :
    Inv X w (ob ++ [some (k, xs)]) (upd m ob.length (some (b, k))) (upd (upd cn N (fun x => cn N x - d x)) ob.length d) ∧
      Ext X w m cn w (upd m ob.length (some (b, k))) (upd (upd cn N (fun x => cn N x - d x)) ob.length d) := by
  have hNe : ob.length ≠ N := by omega
  have e1 : (upd (upd cn N (fun x => cn N x - d x)) ob.length d) ob.length = d := upd_same _ _ _
  have e2 : (upd (upd cn N (fun x => cn N x - d x)) ob.length d) N = fun x => cn N x - d x := by rw [upd_other _ _ (Ne.symm hNe), upd_same]
  have e3 : ∀ i, i ≠ ob.length → i ≠ N → (upd (upd cn N (fun x => cn N x - d x)) ob.length d) i = cn i := fun i h1 h2 => by rw [upd_other _ _ h1, upd_other _ _ h2]
  generalize hcn : upd (upd cn N (fun x => cn N x - d x)) ob.length d = cn' at *
  have hpos : ∀ i x, 0 < cn' i x → (i = ob.length ∧ 0 < d x ∧ 0 < cn N x) ∨ (i ≠ ob.length ∧ 0 < cn i x ∧ (i = N → d x = 0)) := by
    intro i x h
    by_cases h1 : i = ob.length
    · subst h1; rw [e1] at h; exact .inl ⟨rfl, h, by have := hd x; omega⟩
    · by_cases h2 : i = N
      · subst h2
        rw [e2] at h
        have h : 0 < cn i x - d x := h
        have := hi.one i x
        exact .inr ⟨h1, by omega, fun _ => by omega⟩
      · rw [e3 i h1 h2] at h; exact .inr ⟨h1, h, fun h3 => absurd h3 h2⟩
  have hext : Ext X w m cn w (upd m ob.length (some (b, k))) cn' := by
    refine ⟨Nat.le_refl _, fun x hx hf => ⟨⟨hf.1, fun i => ?_⟩, rfl⟩, fun id x h => ⟨?_, rfl⟩⟩
    · rcases Nat.eq_zero_or_pos (cn' i x) with h | h
      · exact h
      · rcases hpos i x h with ⟨_, _, h3⟩ | ⟨_, h3, _⟩
        · have := hf.2 N; omega
        · have := hf.2 i; omega
    · have := hi.lt_of_map h
      rw [upd_other _ _ (by omega)]; exact h
  have hdb : 0 < d b := by rw [hc]; simp
  refine ⟨⟨hi.le, hi.kept, hi.os, hi.tape, hi.output, fun i o ho => ?_, fun x i j h1 h2 => ?_, fun i x => ?_, fun i x h => ?_, fun i h => ?_, fun i h => ?_, fun i x h => ?_, by simp; have := hi.n0; omega, hi.shp⟩, hext⟩
  · by_cases hid : i < ob.length
    · rw [List.getElem?_append_left hid] at ho
      exact (hi.obj i o ho).ext hext (e3 i (by omega) (by omega)) (upd_other _ _ (by omega)) (fun _ _ => rfl)
    · have : i = ob.length := by
        have := (List.getElem?_eq_some_iff.1 ho).1
        simp at this; omega
      subst this
      simp at ho
      subst ho
      refine .inr ⟨b, cur, e, c, upd_same _ _ _, hb, hk, hl, ?_, fun x => by rw [e1]; exact hc x⟩
      exact hR.mono (Nat.le_refl _) hext.fr (fun _ _ => rfl) (.inr rfl) (fun id x h => by simp [noIds] at h)
  · rcases hpos i x h1 with ⟨rfl, a1, a2⟩ | ⟨a0, a1, a2⟩ <;> rcases hpos j x h2 with ⟨rfl, b1, b2⟩ | ⟨b0, b1, b2⟩
    · rfl
    · have := hi.dis x N j a2 b1; have := b2 this.symm; omega
    · have := hi.dis x N i b2 a1; have := a2 this.symm; omega
    · exact hi.dis x i j a1 b1
  · by_cases h1 : i = ob.length
    · subst h1; rw [e1]; have := hd x; have := hi.one N x; omega
    · by_cases h2 : i = N
      · subst h2; rw [e2]; have := hi.one i x; show cn i x - d x ≤ 1; omega
      · rw [e3 i h1 h2]; exact hi.one i x
  · rcases hpos i x h with ⟨_, _, h3⟩ | ⟨_, h3, _⟩
    · exact hi.new N x h3
    · exact hi.new i x h3
  · simp at h
    rw [upd_other _ _ (by omega)]
    exact hi.fresh i (by omega)
  · rw [upd_other _ _ (by have := hi.n0; omega)]; exact hi.pas i h
  · by_cases hid : i = ob.length
    · subst hid
      rw [upd_same] at h
      cases h
      exact (Array.getElem?_eq_some_iff.1 hb).1
    · rw [upd_other _ _ hid] at h; exact hi.mlt i x h

theorem Inv.nameNil (hi : Inv X w ob m cn) (k : Nat) : Inv X w (ob ++ [some (k, [])]) m (upd cn ob.length (fun _ => 0)) ∧ Ext X w m cn w m (upd cn ob.length (fun _ => 0)) := by
  have hle : ∀ i x, upd cn ob.length (fun _ => 0) i x ≤ cn i x := by
    intro i x
    by_cases h : i = ob.length
    · subst h; rw [upd_same]; exact Nat.zero_le _
    · rw [upd_other _ _ h]; exact Nat.le_refl _
  have hext : Ext X w m cn w m (upd cn ob.length (fun _ => 0)) :=
    ⟨Nat.le_refl _, fun x _ hf => ⟨⟨hf.1, fun i => by have := hle i x; have := hf.2 i; omega⟩, rfl⟩, fun _ _ h => ⟨h, rfl⟩⟩
  refine ⟨⟨hi.le, hi.kept, hi.os, hi.tape, hi.output, fun i o ho => ?_, fun x i j h1 h2 => hi.dis x i j (Nat.lt_of_lt_of_le h1 (hle i x)) (Nat.lt_of_lt_of_le h2 (hle j x)), fun i x => Nat.le_trans (hle i x) (hi.one i x),
    fun i x h => hi.new i x (Nat.lt_of_lt_of_le h (hle i x)), fun i h => hi.fresh i (by simp at h; omega), hi.pas, hi.mlt, by simp; have := hi.n0; omega, hi.shp⟩, hext⟩
  by_cases hid : i < ob.length
  · rw [List.getElem?_append_left hid] at ho
    exact (hi.obj i o ho).ext hext (upd_other _ _ (by omega)) rfl (fun _ _ => rfl)
  · have : i = ob.length := by
      have := (List.getElem?_eq_some_iff.1 ho).1
      simp at this; omega
    subst this
    simp at ho
    subst ho
    exact .inl ⟨rfl, hi.fresh _ (Nat.le_refl _), fun x => by rw [upd_same]⟩

mutual
theorem nameV_len : ∀ (ob : List Ob) (v : V), ob.length ≤ (nameV ob v).2.length
  | ob, .lst true k xs => by simp [nameV]
  | ob, .lst false k xs => Nat.le_refl _
  | ob, .bx k x => by simp [nameV]
  | ob, .agg xs => nameL_len ob xs
  | ob, .tup xs => nameL_len ob xs
  | ob, .clo _ _ _ => Nat.le_refl _
  | ob, .ifc _ _ => Nat.le_refl _
  | ob, .junk => Nat.le_refl _
  | ob, .bool _ => Nat.le_refl _
  | ob, .int _ _ => Nat.le_refl _
  | ob, .str _ => Nat.le_refl _
  | ob, .raw _ => Nat.le_refl _
  | ob, .fp _ => Nat.le_refl _
  | ob, .fmap _ => Nat.le_refl _
  | ob, .ptr _ _ _ => Nat.le_refl _
  | ob, .arr _ _ _ => Nat.le_refl _
theorem nameL_len : ∀ (ob : List Ob) (xs : List V), ob.length ≤ (nameL ob xs).2.length
  | ob, [] => Nat.le_refl _
  | ob, x :: xs => Nat.le_trans (nameV_len ob x) (nameL_len (nameV ob x).2 xs)
end

theorem Ext.trans {w1 w2 w3 : World} {m1 m2 m3 : Mp} {c1 c2 c3 : Nat → Cnt} (h1 : Ext X w1 m1 c1 w2 m2 c2) (h2 : Ext X w2 m2 c2 w3 m3 c3) : Ext X w1 m1 c1 w3 m3 c3 :=
  ⟨Nat.le_trans h1.sz h2.sz, fun b hb hf => ⟨(h2.fr b (Nat.lt_of_lt_of_le hb h1.sz) (h1.fr b hb hf).1).1, (h2.fr b (Nat.lt_of_lt_of_le hb h1.sz) (h1.fr b hb hf).1).2.trans (h1.fr b hb hf).2⟩,
    fun id x h => ⟨(h2.mp id x (h1.mp id x h).1).1, (h2.mp id x (h1.mp id x h).1).2.trans (h1.mp id x h).2⟩⟩

theorem Ext.refl : Ext X w m cn w m cn := ⟨Nat.le_refl _, fun _ _ hf => ⟨hf, rfl⟩, fun _ _ h => ⟨h, rfl⟩⟩

mutual
theorem nameV_ok : ∀ (v : V) {ob : List Ob} {m : Mp} {cn : Nat → Cnt} {u : Value} {d : Cnt} {N : Nat}, Inv X w ob m cn → (nameV ob v).2.length ≤ N → R w (frz X cn) m (.one v u) d → (∀ z, d z ≤ cn N z) →
    ∃ m2 cn2, Inv X w (nameV ob v).2 m2 cn2 ∧ Ext X w m cn w m2 cn2 ∧ R w (frz X cn2) m2 (.one (nameV ob v).1 u) z0 ∧ (∀ z, cn N z ≤ cn2 N z + d z) ∧ ob.length ≤ (nameV ob v).2.length := by
  intro v ob m cn u d N hi hN hR hd
  have idle : nameV ob v = (v, ob) → (∀ z, d z = 0) → ∃ m2 cn2, Inv X w (nameV ob v).2 m2 cn2 ∧ Ext X w m cn w m2 cn2 ∧ R w (frz X cn2) m2 (.one (nameV ob v).1 u) z0 ∧ (∀ z, cn N z ≤ cn2 N z + d z) ∧ ob.length ≤ (nameV ob v).2.length := by
    intro e h0
    rw [e]
    exact ⟨m, cn, hi, .refl, hR.zero h0, fun z => Nat.le_add_right _ _, Nat.le_refl _⟩
  cases v with
  | lst o k xs =>
    cases o with
    | false => exact idle rfl (hR.free0 rfl)
    | true =>
      simp only [nameV] at hN ⊢
      cases hR with
      | nil | nilz =>
        simp at hN
        have := hi.nameNil k
        exact ⟨m, _, this.1, this.2, .arrn, fun z => by rw [upd_other _ _ (by omega)]; exact Nat.le_add_right _ _, by simp⟩
      | @own _ _ _ b cap cur e c _ hb hs hk hn h hc =>
        simp at hN
        have := hi.name (N := N) (k := k) (xs := xs) (by omega) hb hk (Nat.le_trans (Nat.mul_le_mul_right k hn) hs) h hc hd
        refine ⟨_, _, this.1, this.2, ?_, fun z => ?_, by simp⟩
        · have h3 := R.arr (w := w) (fr := frz X (upd (upd cn N (fun x => cn N x - d x)) ob.length d)) (upd_same m ob.length (some (b, k))) (o := 0) (show w.shape? b = some (e, cur.size) from by simp only [World.shape?, hb]) hn (by rw [Nat.zero_add]; exact hs)
          rw [Nat.zero_mul] at h3
          exact h3
        · rw [upd_other _ _ (by omega), upd_same]
          have := hd z
          show _ ≤ cn N z - d z + d z
          omega
  | bx k x =>
    simp only [nameV] at hN ⊢
    cases hR with
    | @bx _ _ _ b cur e c _ hb hs hk h hc =>
      simp at hN
      have := hi.name (N := N) (k := k) (xs := [x]) (by omega) hb hk hs h hc hd
      refine ⟨_, _, this.1, this.2, ?_, fun z => ?_, by simp⟩
      · have h3 := R.ptr (w := w) (fr := frz X (upd (upd cn N (fun x => cn N x - d x)) ob.length d)) (i := 0) (j := 0) (upd_same m ob.length (some (b, k)))
        rw [Nat.zero_mul] at h3
        exact h3
      · rw [upd_other _ _ (by omega), upd_same]
        have := hd z
        show _ ≤ cn N z - d z + d z
        omega
  | agg xs =>
    simp only [nameV] at hN ⊢
    obtain ⟨us, rfl, hR2⟩ := R.inv_agg hR
    obtain ⟨m2, cn2, h1, h2, h3, h4, h5⟩ := nameL_ok xs hi hN hR2 hd
    exact ⟨m2, cn2, h1, h2, .agg h3, h4, h5⟩
  | tup xs =>
    simp only [nameV] at hN ⊢
    obtain ⟨us, rfl, hR2⟩ := R.inv_tup hR
    obtain ⟨m2, cn2, h1, h2, h3, h4, h5⟩ := nameL_ok xs hi hN hR2 hd
    exact ⟨m2, cn2, h1, h2, .tup h3, h4, h5⟩
  | clo f xs ys =>
    by_cases hf : (freeL xs && freeL ys) = true
    · exact idle (by simp only [nameV, hf, if_true]) (hR.free0 (by simpa [V.free] using hf))
    · simp only [nameV, if_neg hf]
      exact ⟨m, cn, hi, .refl, .junk, fun z => Nat.le_add_right _ _, Nat.le_refl _⟩
  | ifc t x =>
    by_cases hf : x.free = true
    · exact idle (by simp only [nameV, hf, if_true]) (hR.free0 (by simpa [V.free] using hf))
    · simp only [nameV, if_neg hf]
      exact ⟨m, cn, hi, .refl, .junk, fun z => Nat.le_add_right _ _, Nat.le_refl _⟩
  | _ => exact idle rfl (hR.free0 rfl)
theorem nameL_ok : ∀ (xs : List V) {ob : List Ob} {m : Mp} {cn : Nat → Cnt} {us : List Value} {d : Cnt} {N : Nat}, Inv X w ob m cn → (nameL ob xs).2.length ≤ N → R w (frz X cn) m (.list xs us) d → (∀ z, d z ≤ cn N z) →
    ∃ m2 cn2, Inv X w (nameL ob xs).2 m2 cn2 ∧ Ext X w m cn w m2 cn2 ∧ R w (frz X cn2) m2 (.list (nameL ob xs).1 us) z0 ∧ (∀ z, cn N z ≤ cn2 N z + d z) ∧ ob.length ≤ (nameL ob xs).2.length := by
  intro xs ob m cn us d N hi hN hR hd
  cases xs with
  | nil =>
    cases hR
    exact ⟨m, cn, hi, .refl, .lnil, fun z => Nat.le_add_right _ _, Nat.le_refl _⟩
  | cons x xs =>
    simp only [nameL] at hN ⊢
    cases hR with
    | @lcons _ _ _ u us c1 c2 _ hx hxs he =>
      have hlen := (nameL_len (nameV ob x).2 xs)
      obtain ⟨m1, cn1, a1, a2, a3, a4, a5⟩ := nameV_ok x hi (N := N) (by omega) hx (fun z => by have := hd z; rw [he] at this; omega)
      have hxs2 : R w (frz X cn1) m1 (.list xs us) c2 := hxs.mono (Nat.le_refl _) a2.fr (fun _ _ => rfl) trivial a2.mp
      obtain ⟨m2, cn2, b1, b2, b3, b4, b5⟩ := nameL_ok xs a1 (N := N) hN hxs2 (fun z => by have := hd z; have := a4 z; rw [he] at *; omega)
      exact ⟨m2, cn2, b1, a2.trans b2, .lcons (b2.R a3) b3 (fun _ => rfl), fun z => by have := a4 z; have := b4 z; rw [he]; omega, by omega⟩
end

end
end Go.Ev
namespace Go.Ev
open Go

def Callable (P : Program) (f : FuncId) : Prop := ∃ fn, P.funcs[f]? = some fn ∧ fn.body.isNone = false ∧ (fn.name == "runtime.NumGoroutine") = false

theorem run_callFunc {P : Program} {f : FuncId} (h : Callable P f) (args : Array Value) (w : World) : (callFunc f args).run P w = .ok (.enter f args) w := by
  obtain ⟨fn, h1, h2, h3⟩ := h
  simp only [callFunc, Sem.run_bind, run_program, Result.andThen_ok, h1, h3, h2, Bool.false_eq_true, if_false, Sem.run_pure]

def wb (ob : List Ob) : List Nat → List Ob → List Ob
  | id :: ps, o :: os => wb (ob.set id o) ps os
  | _, _ => ob

theorem wb_length : ∀ (ps : List Nat) (os : List Ob) (ob : List Ob), (wb ob ps os).length = ob.length
  | [], _, _ => by simp [wb]
  | _ :: _, [], _ => by simp [wb]
  | id :: ps, o :: os, ob => by simp [wb, wb_length ps os]

theorem wb_other : ∀ (ps : List Nat) (os : List Ob) (ob : List Ob) (i : Nat), i ∉ ps → (wb ob ps os)[i]? = ob[i]?
  | [], _, _, _, _ => by simp [wb]
  | _ :: _, [], _, _, _ => by simp [wb]
  | id :: ps, o :: os, ob, i, h => by
    simp only [List.mem_cons, not_or] at h
    rw [wb, wb_other ps os _ i h.2, List.getElem?_set_ne (Ne.symm h.1)]

theorem wb_at : ∀ (ps : List Nat) (os : List Ob) (ob : List Ob), ps.Nodup → ps.length = os.length → (∀ id ∈ ps, id < ob.length) → ∀ (q : Nat) (id : Nat), ps[q]? = some id → (wb ob ps os)[id]? = os[q]?
  | [], _, _, _, _, _, q, id, h => by simp at h
  | p :: ps, [], _, _, h, _, _, _, _ => by simp at h
  | p :: ps, o :: os, ob, hn, hl, hlt, q, id, h => by
    have hn' := List.nodup_cons.1 hn
    cases q with
    | zero =>
      simp at h
      subst h
      rw [wb, wb_other ps os _ p hn'.1, List.getElem?_set_self (hlt p (by simp))]
      rfl
    | succ q =>
      have := wb_at ps os (ob.set p o) hn'.2 (by simpa using hl) (fun i hi => by rw [List.length_set]; exact hlt i (by simp [hi])) q id (by simpa using h)
      rw [wb, this]
      rfl

theorem nodup_inj {ps : List Nat} (hn : ps.Nodup) {i j a : Nat} (h1 : ps[i]? = some a) (h2 : ps[j]? = some a) : i = j := by
  obtain ⟨a1, a2⟩ := List.getElem?_eq_some_iff.1 h1
  obtain ⟨b1, b2⟩ := List.getElem?_eq_some_iff.1 h2
  have hp := List.pairwise_iff_getElem.1 hn
  rcases Nat.lt_trichotomy i j with h | h | h
  · exact absurd (a2.trans b2.symm) (hp i j a1 b1 h)
  · exact h
  · exact absurd (b2.trans a2.symm) (hp j i b1 a1 h)

def gIn (ps : List Nat) (id : Nat) : Option Nat := ps.idxOf? id
def gOut (ps : List Nat) (q : Nat) : Option Nat := ps[q]?

theorem gIn_spec {ps : List Nat} {id q : Nat} (h : gIn ps id = some q) : ps[q]? = some id := by
  unfold gIn at h
  rw [List.idxOf?_eq_some_iff] at h
  obtain ⟨h1, h2, _⟩ := h
  rw [List.getElem?_eq_getElem h1]
  simpa using h2

section
variable {P : Program} {X : Ctx} {st : St} {Q : Exit → St → Prop} {ops : Array Oper} {rest : List Oper} {o : Oper}

/-- the callee's view of the objects that are passed -/
def obIn (ob : List Ob) (ps : List Nat) : List Ob := ps.map fun id => mapO (gIn ps) (ob.getD id none)

def cnIn (ps : List Nat) (cn : Nat → Cnt) (q : Nat) : Cnt := match ps[q]? with | some id => cn id | none => z0

theorem cnIn_some {ps : List Nat} {cn : Nat → Cnt} {q id : Nat} (h : ps[q]? = some id) : cnIn ps cn q = cn id := by simp only [cnIn, h]
theorem cnIn_none {ps : List Nat} {cn : Nat → Cnt} {q : Nat} (h : ps[q]? = none) : cnIn ps cn q = z0 := by simp only [cnIn, h]

def ctxC (X : Ctx) (w : World) (m : Mp) (cn : Nat → Cnt) (ps : List Nat) : Ctx :=
  ⟨w, fun b => b < w.heap.size ∧ frz X cn b, fun b => ∃ id, 0 < (cnIn ps cn) id b, fun q => (ps[q]?).bind m, ps.length⟩

theorem callee_inv {w : World} {m : Mp} {cn : Nat → Cnt} (hi : Inv X w st.ob m cn) {ps : List Nat} (hn : ps.Nodup) (hlt : ∀ id ∈ ps, id < st.ob.length) :
    Inv (ctxC X w m cn ps) w (obIn st.ob ps) (fun q => (ps[q]?).bind m) (cnIn ps cn) ∧
      (∀ b, b < w.heap.size → frz X cn b → frz (ctxC X w m cn ps) (cnIn ps cn) b) := by
  have hfr : ∀ b, b < w.heap.size → frz X cn b → frz (ctxC X w m cn ps) (cnIn ps cn) b := by
    intro b hb hf
    refine ⟨.inl ⟨hb, hf⟩, fun q => ?_⟩
    cases h : ps[q]? with
    | none => rw [cnIn_none h]
    | some id => rw [cnIn_some h]; exact hf.2 id
  refine ⟨⟨Nat.le_refl _, fun _ _ _ => rfl, rfl, rfl, rfl, fun q o ho => ?_, fun b i j h1 h2 => ?_, fun q b => ?_, fun q b h => ?_, fun q h => ?_, fun _ _ => rfl, fun q x h => ?_, by simp [obIn, ctxC], fun _ _ => rfl⟩, hfr⟩
  · simp only [obIn, List.getElem?_map] at ho
    cases hq : ps[q]? with
    | none => rw [hq] at ho; cases ho
    | some id =>
      rw [hq] at ho
      simp only [Option.map_some, Option.some.injEq] at ho
      have hid := hlt id (List.mem_of_getElem? hq)
      have hob : st.ob[id]? = some (st.ob.getD id none) := by rw [List.getD_eq_getElem?_getD, List.getElem?_eq_getElem hid]; rfl
      have := hi.obj id _ hob
      cases hO : st.ob.getD id none with
      | none => rw [hO] at ho; subst ho; trivial
      | some p =>
        obtain ⟨k, xs⟩ := p
        rw [hO] at ho this
        subst ho
        rcases this with ⟨h1, h2, h3⟩ | ⟨b, cur, e, c, h1, h2, h3, h4, h5, h6⟩
        · exact .inl ⟨by rw [h1]; rfl, by simp only [hq, Option.bind_some]; exact h2, by rw [cnIn_some hq]; exact h3⟩
        · refine .inr ⟨b, cur, e, c, by simp only [hq, Option.bind_some]; exact h1, h2, uni_mapL h3 _, by rw [mapL_map, List.length_map]; exact h4, ?_, by rw [cnIn_some hq]; exact h6⟩
          have h7 : R w (frz (ctxC X w m cn ps) (cnIn ps cn)) m (.cells b 0 (flat xs)) c :=
            h5.mono (Nat.le_refl _) (fun b hb hf => ⟨hfr b hb hf, rfl⟩) (fun _ _ => rfl) (.inr rfl) (fun _ _ h => ⟨h, rfl⟩)
          have h8 := R.mapId (g := gIn ps) (m' := fun q => (ps[q]?).bind m) (fun id q hg => by rw [gIn_spec hg]; rfl) h7
          rw [mapL_flat]
          exact h8
  · cases hi' : ps[i]? with
    | none => rw [cnIn_none hi'] at h1; exact absurd h1 (by simp [z0])
    | some id =>
      cases hj' : ps[j]? with
      | none => rw [cnIn_none hj'] at h2; exact absurd h2 (by simp [z0])
      | some id' =>
        rw [cnIn_some hi'] at h1
        rw [cnIn_some hj'] at h2
        have := hi.dis b id id' h1 h2
        subst this
        exact nodup_inj hn hi' hj'
  · cases hq : ps[q]? with
    | none => rw [cnIn_none hq]; exact Nat.zero_le _
    | some id => rw [cnIn_some hq]; exact hi.one id b
  · refine ⟨?_, .inr ⟨q, h⟩⟩
    cases hq : ps[q]? with
    | none => rw [cnIn_none hq] at h; exact absurd h (by simp [z0])
    | some id => rw [cnIn_some hq] at h; exact (hi.new id b h).1
  · simp only [obIn, List.length_map] at h
    rw [List.getElem?_eq_none h]; rfl
  · cases hq : ps[q]? with
    | none => rw [hq] at h; cases h
    | some id => rw [hq] at h; exact hi.mlt id x h

/-- how often a block is owned, behind the call -/
def cnOut (ps : List Nat) (cn cnc : Nat → Cnt) (N n : Nat) : Nat → Cnt := fun id => match gIn ps id with
  | some q => cnc q
  | none => if id = N then cnc n else cn id

theorem gIn_of_mem {ps : List Nat} (hn : ps.Nodup) {q id : Nat} (h : ps[q]? = some id) : gIn ps id = some q := by
  unfold gIn
  rw [List.idxOf?_eq_some_iff]
  obtain ⟨h1, h2⟩ := List.getElem?_eq_some_iff.1 h
  refine ⟨h1, by simpa using h2, fun j hj => ?_⟩
  have : ps[j]'(by omega) ≠ ps[q] := fun e => by
    have := nodup_inj hn (i := j) (j := q) (a := ps[q]) (by rw [List.getElem?_eq_getElem (by omega), e]) (by rw [List.getElem?_eq_getElem h1])
    omega
  simpa [h2] using this

theorem gIn_none {ps : List Nat} {id : Nat} : gIn ps id = none ↔ id ∉ ps := by
  unfold gIn
  rw [List.idxOf?_eq_none_iff]

end
end Go.Ev
namespace Go.Ev
open Go

section
variable {P : Program} {X : Ctx} {st : St} {Q : Exit → St → Prop} {ops : Array Oper} {rest : List Oper} {o : Oper}

theorem after_call {w w' : World} {ob obc : List Ob} {m mc : Mp} {cn cnc : Nat → Cnt} {ps : List Nat} {n N : Nat} {r : V} {u : Value} {d : Cnt} (hi : Inv X w ob m cn) (hn : ps.Nodup) (hlt : ∀ id ∈ ps, id < ob.length)
    (hc : Inv (ctxC X w m cn ps) w' obc mc cnc) (hr : R w' (frz (ctxC X w m cn ps) cnc) mc (.one r u) d) (hlen : obc.length = ps.length) (hnn : ps.length ≤ n) (hd : ∀ z, d z ≤ cnc n z) (hN : ob.length ≤ N) :
    Inv X w' (wb ob ps (obc.map (mapO (gOut ps)))) m (cnOut ps cn cnc N n) ∧ Ext X w m cn w' m (cnOut ps cn cnc N n) ∧
      R w' (frz X (cnOut ps cn cnc N n)) m (.one (r.mapId (gOut ps)) u) d ∧ ∀ z, d z ≤ cnOut ps cn cnc N n N z := by
  have own : ∀ b, (ctxC X w m cn ps).own0 b → ∃ id, id ∈ ps ∧ 0 < cn id b := by
    rintro b ⟨q, hq⟩
    cases h : ps[q]? with
    | none => rw [cnIn_none h] at hq; exact absurd hq (by simp [z0])
    | some id => rw [cnIn_some h] at hq; exact ⟨id, List.mem_of_getElem? h, hq⟩
  have hle : w.heap.size ≤ w'.heap.size := hc.le
  have kept : ∀ b, b < w.heap.size → (∀ id ∈ ps, cn id b = 0) → w'.heap[b]? = w.heap[b]? := fun b hb h => hc.kept b hb fun ho => by
    obtain ⟨id, h1, h2⟩ := own b ho
    have := h id h1
    omega
  have cnew : ∀ q b, 0 < cnc q b → b < w'.heap.size ∧ (w.heap.size ≤ b ∨ ∃ id, id ∈ ps ∧ 0 < cn id b) := fun q b h => by
    obtain ⟨h1, h2⟩ := hc.new q b h
    exact ⟨h1, h2.imp (fun h => h) (own b)⟩
  have hNps : N ∉ ps := fun h => by have := hlt N h; omega
  have oN : cnOut ps cn cnc N n N = cnc n := by simp only [cnOut, gIn_none.2 hNps, if_true]
  have oP : ∀ {q id : Nat}, ps[q]? = some id → cnOut ps cn cnc N n id = cnc q := fun {q id} h => by simp only [cnOut, gIn_of_mem hn h]
  have oO : ∀ {id : Nat}, id ∉ ps → id ≠ N → cnOut ps cn cnc N n id = cn id := fun {id} h1 h2 => by simp only [cnOut, gIn_none.2 h1, if_neg h2]
  have part : ∀ id : Nat, (∃ q : Nat, ps[q]? = some id) ∨ (id ∉ ps ∧ id = N) ∨ (id ∉ ps ∧ id ≠ N) := by
    intro id
    by_cases h : id ∈ ps
    · exact .inl (List.mem_iff_getElem?.1 h)
    · by_cases h2 : id = N
      · exact .inr (.inl ⟨h, h2⟩)
      · exact .inr (.inr ⟨h, h2⟩)
  have qlt : ∀ {q id : Nat}, ps[q]? = some id → q < ps.length := fun h => (List.getElem?_eq_some_iff.1 h).1
  have fr1 : ∀ b, b < w.heap.size → frz X cn b → frz X (cnOut ps cn cnc N n) b ∧ w'.heap[b]? = w.heap[b]? := by
    intro b hb hf
    have h0 : ∀ q, cnc q b = 0 := fun q => by
      rcases Nat.eq_zero_or_pos (cnc q b) with h | h
      · exact h
      · rcases (cnew q b h).2 with h | ⟨id, _, h⟩
        · omega
        · have := hf.2 id; omega
    refine ⟨⟨hf.1, fun id => ?_⟩, kept b hb fun id _ => hf.2 id⟩
    rcases part id with ⟨q, hq⟩ | ⟨_, rfl⟩ | ⟨h1, h2⟩
    · rw [oP hq]; exact h0 q
    · rw [oN]; exact h0 n
    · rw [oO h1 h2]; exact hf.2 id
  have fr2 : ∀ b, b < w'.heap.size → frz (ctxC X w m cn ps) cnc b → frz X (cnOut ps cn cnc N n) b ∧ w'.heap[b]? = w'.heap[b]? := by
    rintro b hb ⟨h1, h2⟩
    refine ⟨⟨?_, fun id => ?_⟩, rfl⟩
    · rcases h1 with ⟨_, h1⟩ | h1
      · exact h1.1
      · exact .inr (Nat.le_trans hi.le h1)
    · rcases part id with ⟨q, hq⟩ | ⟨_, rfl⟩ | ⟨h3, h4⟩
      · rw [oP hq]; exact h2 q
      · rw [oN]; exact h2 n
      · rw [oO h3 h4]
        rcases h1 with ⟨_, h1⟩ | h1
        · exact h1.2 id
        · rcases Nat.eq_zero_or_pos (cn id b) with h | h
          · exact h
          · have := (hi.new id b h).1
            have h1 : w.heap.size ≤ b := h1
            omega
  have hext : Ext X w m cn w' m (cnOut ps cn cnc N n) := ⟨hle, fr1, fun id x h => ⟨h, hc.shp x.1 (hi.mlt id x h)⟩⟩
  have hmap : ∀ q id, gOut ps q = some id → m id = mc q := fun q id h => by
    have h : ps[q]? = some id := h
    rw [hc.pas q (qlt h)]
    show m id = (ps[q]?).bind m
    rw [h]; rfl
  have hRm : ∀ {j : J} {c : Cnt}, R w' (frz (ctxC X w m cn ps) cnc) mc j c → j.here (fun _ => True) → R w' (frz X (cnOut ps cn cnc N n)) m (j.mapId (gOut ps)) c := by
    intro j c h _
    have h1 : R w' (frz X (cnOut ps cn cnc N n)) mc j c := h.mono (Nat.le_refl _) fr2 (fun _ _ => rfl) (by cases j <;> first | trivial | exact .inr rfl) (fun _ _ h => ⟨h, rfl⟩)
    exact R.mapId hmap h1
  refine ⟨⟨Nat.le_trans hi.le hle, fun b hb ho => ?_, hc.os.trans hi.os, hc.tape.trans hi.tape, hc.output.trans hi.output, fun i o ho => ?_, fun b i j h1 h2 => ?_, fun i b => ?_, fun i b h => ?_,
    fun i h => hi.fresh i (by rw [wb_length] at h; exact h), hi.pas, fun i x h => Nat.lt_of_lt_of_le (hi.mlt i x h) hle, by rw [wb_length]; exact hi.n0,
    fun b hb => (hc.shp b (Nat.lt_of_lt_of_le hb hi.le)).trans (hi.shp b hb)⟩, hext, hRm hr trivial, fun z => by rw [oN]; exact hd z⟩
  · rw [kept b (Nat.lt_of_lt_of_le hb hi.le) fun id _ => ?_]
    · exact hi.kept b hb ho
    · rcases Nat.eq_zero_or_pos (cn id b) with h | h
      · exact h
      · rcases (hi.new id b h).2 with h | h
        · omega
        · exact absurd h ho
  · by_cases hmem : i ∈ ps
    · obtain ⟨q, hq⟩ := List.mem_iff_getElem?.1 hmem
      rw [wb_at ps _ ob hn (by rw [List.length_map, hlen]) hlt q i hq, List.getElem?_map] at ho
      cases hO : obc[q]? with
      | none => rw [hO] at ho; cases ho
      | some oq =>
        rw [hO] at ho
        simp only [Option.map_some, Option.some.injEq] at ho
        subst ho
        have hob := hc.obj q oq hO
        have hmq := hmap q i hq
        cases oq with
        | none => trivial
        | some p =>
          obtain ⟨k, xs⟩ := p
          rcases hob with ⟨h1, h2, h3⟩ | ⟨b, cur, e, c, h1, h2, h3, h4, h5, h6⟩
          · exact .inl ⟨by rw [h1]; rfl, by rw [hmq]; exact h2, by rw [oP hq]; exact h3⟩
          · refine .inr ⟨b, cur, e, c, by rw [hmq]; exact h1, h2, uni_mapL h3 _, by rw [mapL_map, List.length_map]; exact h4, ?_, by rw [oP hq]; exact h6⟩
            have := hRm h5 (.inr trivial)
            rw [mapL_flat]
            exact this
    · rw [wb_other ps _ ob i hmem] at ho
      have hlt' := (List.getElem?_eq_some_iff.1 ho).1
      refine (hi.obj i o ho).ext hext (oO hmem (by omega)) rfl (fun b hb => kept b (hi.new i b hb).1 fun id hid => ?_)
      rcases Nat.eq_zero_or_pos (cn id b) with h | h
      · exact h
      · exact absurd (hi.dis b id i h hb ▸ hid) hmem
  · have cross : ∀ q j, 0 < cnc q b → j ∉ ps → 0 < cn j b → False := by
      intro q j hq hj hcj
      rcases (cnew q b hq).2 with h | ⟨id, h1, h2⟩
      · have := (hi.new j b hcj).1; omega
      · exact hj (hi.dis b id j h2 hcj ▸ h1)
    rcases part i with ⟨q, hq⟩ | ⟨_, rfl⟩ | ⟨a1, a2⟩ <;> rcases part j with ⟨q', hq'⟩ | ⟨_, rfl⟩ | ⟨b1, b2⟩
    · rw [oP hq] at h1; rw [oP hq'] at h2
      have := hc.dis b q q' h1 h2
      subst this
      rw [hq] at hq'; exact Option.some.inj hq'
    · rw [oP hq] at h1; rw [oN] at h2
      have := hc.dis b q n h1 h2; have := qlt hq; omega
    · rw [oP hq] at h1; rw [oO b1 b2] at h2; exact (cross q j h1 b1 h2).elim
    · rw [oN] at h1; rw [oP hq'] at h2
      have := hc.dis b n q' h1 h2; have := qlt hq'; omega
    · rfl
    · rw [oN] at h1; rw [oO b1 b2] at h2; exact (cross n j h1 b1 h2).elim
    · rw [oO a1 a2] at h1; rw [oP hq'] at h2; exact (cross q' i h2 a1 h1).elim
    · rw [oO a1 a2] at h1; rw [oN] at h2; exact (cross n i h2 a1 h1).elim
    · rw [oO a1 a2] at h1; rw [oO b1 b2] at h2; exact hi.dis b i j h1 h2
  · rcases part i with ⟨q, hq⟩ | ⟨_, rfl⟩ | ⟨a1, a2⟩
    · rw [oP hq]; exact hc.one q b
    · rw [oN]; exact hc.one n b
    · rw [oO a1 a2]; exact hi.one i b
  · have key : ∀ q, 0 < cnc q b → b < w'.heap.size ∧ (X.w0.heap.size ≤ b ∨ X.own0 b) := by
      intro q hq
      obtain ⟨h1, h2⟩ := cnew q b hq
      refine ⟨h1, ?_⟩
      rcases h2 with h2 | ⟨id, _, h2⟩
      · exact .inl (Nat.le_trans hi.le h2)
      · exact (hi.new id b h2).2
    rcases part i with ⟨q, hq⟩ | ⟨_, rfl⟩ | ⟨a1, a2⟩
    · rw [oP hq] at h; exact key q h
    · rw [oN] at h; exact key n h
    · rw [oO a1 a2] at h
      have := hi.new i b h
      exact ⟨Nat.lt_of_lt_of_le this.1 hle, this.2⟩

/-- a call of a Go function by its contract: ps are the objects that are passed -/
theorem WL_call {fo : Operand} {as : Array Operand} {ts : Array TypeId} {f : FuncId} {first cap : List V} (ps : List Nat) {r : V} {obc : List Ob}
    (hct : Ct P f (mapL (gIn ps) (first ++ as.toList.map (val st) ++ cap)) (obIn st.ob ps) r obc)
    (ho : o.op = .call { callee := .value fo, args := as, argTypes := ts }) (hg : gd ops st o.guard = some true) (hf : val st fo = .clo (.func f) first cap) (hF : Callable P f)
    (hn : ps.Nodup) (hlt : ∀ id ∈ ps, id < st.ob.length)
    (hk : WL P X ops rest ⟨setD o.dst (nameV (wb st.ob ps (obc.map (mapO (gOut ps)))) (r.mapId (gOut ps))).1 st.tm, (nameV (wb st.ob ps (obc.map (mapO (gOut ps)))) (r.mapId (gOut ps))).2⟩ Q) :
    WL P X ops (o :: rest) st Q := by
  intro w m cn a hi hs hd
  refine wpList_step fun K hK => ?_
  rw [gd_ok hs hg, if_pos rfl]
  -- the arguments
  have hfv := val_ok hs fo
  rw [hf] at hfv
  obtain ⟨us1, vs1, he, hfirst, hcap⟩ : ∃ us1 vs1, a.eval fo = .func (.func f) (List.toArray us1) (List.toArray vs1) ∧ R w (frz X cn) m (.list first us1) z0 ∧ R w (frz X cn) m (.list cap vs1) z0 := by
    generalize a.eval fo = u at hfv
    generalize hz : z0 = c at hfv
    cases hfv with
    | clo h1 h2 he =>
      subst hz
      exact ⟨_, _, rfl, h1.zero fun z => by have := he z; simp [z0] at this; omega, h2.zero fun z => by have := he z; simp [z0] at this; omega⟩
  have hargs : ∀ l : List Operand, R w (frz X cn) m (.list (l.map (val st)) (l.map a.eval)) z0 := by
    intro l
    induction l with
    | nil => exact .lnil
    | cons x l ih => exact .lcons (val_ok hs x) ih (fun _ => rfl)
  have hall := ((hfirst.ljoin (hargs as.toList)).ljoin hcap).zero fun z => by simp [z0]
  obtain ⟨hinv, hfr⟩ := callee_inv hi hn hlt
  have hR2 : R w (frz (ctxC X w m cn ps) (cnIn ps cn)) m (.list (first ++ as.toList.map (val st) ++ cap) (us1 ++ as.toList.map a.eval ++ vs1)) z0 :=
    hall.mono (Nat.le_refl _) (fun b hb hf => ⟨hfr b hb hf, rfl⟩) (fun _ _ => rfl) trivial (fun _ _ h => ⟨h, rfl⟩)
  have hR3 := R.mapId (g := gIn ps) (m' := fun q => (ps[q]?).bind m) (fun id q hg => by rw [gIn_spec hg]; rfl) hR2
  have hlenO : (obIn st.ob ps).length = ps.length := by simp [obIn]
  have hcall := hct w (fun b => b < w.heap.size ∧ frz X cn b) (fun q => (ps[q]?).bind m) (cnIn ps cn) (us1 ++ as.toList.map a.eval ++ vs1)
    (fun b hb => ⟨hb.1, fun q => by
      cases h : ps[q]? with
      | none => rw [cnIn_none h]
      | some id => rw [cnIn_some h]; exact hb.2.2 id⟩) (by rw [hlenO]; exact hinv) (by rw [hlenO]; exact hR3)
  unfold Oper.wp
  have hrun : (execOp a.eval o).run P w = .ok (.enter f (us1 ++ as.toList.map a.eval ++ vs1).toArray) w := by
    simp only [execOp, ho, resolve, Deferred.ofValue, he, Sem.run_bind, Sem.run_pure, Result.andThen_ok, invoke]
    rw [run_callFunc hF]
    congr 2
    apply Array.ext'
    simp
  rw [hrun]
  refine Calls.mono hcall ?_
  rintro e w' ⟨u, mc, cnc, d, rfl, h1, h2, h3, n, h4, h5⟩
  rw [hlenO] at h1 h2 h3 h4
  -- the number at which the result's blocks are kept
  have hN : st.ob.length ≤ (nameV (wb st.ob ps (obc.map (mapO (gOut ps)))) (r.mapId (gOut ps))).2.length := by
    have := nameV_len (wb st.ob ps (obc.map (mapO (gOut ps)))) (r.mapId (gOut ps))
    rw [wb_length] at this
    exact this
  obtain ⟨a1, a2, a3, a4⟩ := after_call hi hn hlt h1 h2 h3 h4 h5 hN
  obtain ⟨m2, cn2, b1, b2, b3, _, _⟩ := nameV_ok _ a1 (Nat.le_refl _) a3 a4
  have hs2 : Sl X w' m2 cn2 (setD o.dst (nameV (wb st.ob ps (obc.map (mapO (gOut ps)))) (r.mapId (gOut ps))).1 st.tm) (a.put o.dst u) := by
    have := (b2.Sl (a2.Sl hs)).set o.dst b3
    cases hod : o.dst <;> simpa [setD, hod] using this
  have hd2 : (a.put o.dst u).defers = [] := by cases hod : o.dst <;> simpa [Act.put] using hd
  exact hK _ _ (hk w' m2 cn2 _ b1 hs2 hd2)

end
end Go.Ev
namespace Go.Ev
open Go

/-- an element, whatever the place -/
def atD (l : List UInt8) (i : Nat) : UInt8 := l.getD i 0
def atV (xs : List V) (i : Nat) : V := xs.getD i .junk
def atL {α : Type} [Inhabited α] (l : List α) (i : Nat) : α := l.getD i default
theorem atD_lt {l : List UInt8} {i : Nat} (h : i < l.length) : atD l i = l[i] := by simp [atD, h]
theorem atL_lt {α : Type} [Inhabited α] {l : List α} {i : Nat} (h : i < l.length) : atL l i = l[i] := by simp [atL, h]
theorem atV_lt {l : List V} {i : Nat} (h : i < l.length) : atV l i = l[i] := by simp [atV, h]
theorem atV_map {α : Type} [Inhabited α] {f : α → V} {l : List α} {i : Nat} (h : i < l.length) : atV (l.map f) i = f (atL l i) := by simp [atV, atL, h]
theorem atV_zero (x : V) (xs : List V) : atV (x :: xs) 0 = x := rfl
theorem atV_succ (x : V) (xs : List V) (i : Nat) : atV (x :: xs) (i + 1) = atV xs i := by simp [atV]

def opBin (T : Nat → Option TI) (op : BinOp) (t : Nat) : V → V → Option V
  | .int k p, .int k' q => match op with
    | .shl => shft .shl k p q
    | .shr => shft .shr k p q
    | op => if k = k' then arith op k p q else none
  | .str p, .str q => strOp op p q
  | .bool p, .bool q => match T t with
    | some ti => match ti.kd, op with
      | .bool, .eql => some (.bool (p == q))
      | .bool, .neq => some (.bool (!(p == q)))
      | _, _ => none
    | none => none
  | _, _ => none

def opFieldAddr (T : Nat → Option TI) (s f : Nat) (x : V) : Option V :=
  match T s with
  | some ti => match ti.kd with
    | .struct fs => match fs[f]? with
      | some (off, ft) => match T ft with
        | some fi => if fi.size = 0 then none else match x with
          | .ptr id i j => some (.ptr id i (j + off))
          | .fp xs => if off ≤ xs.length then some (.fp (xs.drop off)) else none
          | _ => none
        | none => none
      | none => none
    | _ => none
  | none => none

def opIndexAddr (T : Nat → Option TI) (ob : List Ob) (t : Nat) (x y : V) : Option V :=
  match T t with
  | some ti => match ti.kd with
    | .slice e => match T e with
      | some ei => match x, y with
        | .lst _ k xs, .int _ n => if k = ei.size then (if 0 ≤ n ∧ n.toNat < xs.length then some (.fp (atV xs n.toNat).cells) else none) else none
        | .arr id off len, .int _ n => match ob[id]? with
          | some (some (k, _)) => if k = ei.size then (if 0 ≤ n ∧ n.toNat < len then some (.ptr id (off + n.toNat) 0) else none) else none
          | _ => none
        | _, _ => none
      | none => none
    | _ => none
  | none => none

def opLoad (T : Nat → Option TI) (ob : List Ob) (t : Nat) (p : V) : Option V :=
  match T t with
  | some ti => match p with
    | .fp cells => rd ti cells
    | .ptr id i j => match ob[id]? with
      | some (some (_, xs)) => if i < xs.length ∧ j ≤ (xs.getD i .junk).cells.length then
          (match rd ti ((xs.getD i .junk).cells.drop j) with | some x => if x.free then some x else none | none => none) else none
      | _ => none
    | _ => none
  | none => none

def opIndex (T : Nat → Option TI) (t : Nat) (x y : V) : Option V :=
  match T t with
  | some ti => match ti.kd with
    | .str => match x, y with
      | .str l, .int _ n => if 0 ≤ n ∧ n.toNat < l.length then some (.int .u8 (atD l n.toNat).toNat) else none
      | _, _ => none
    | _ => none
  | none => none

def opConv (T : Nat → Option TI) (s t : Nat) (x : V) : Option V :=
  match T s, T t with
  | some si, some ti => match si.kd, ti.kd, x with
    | _, .int k, .int _ n => some (.int k (k.wrap n))
    | .str, .str, .str l => some (.str l)
    | _, _, _ => none
  | _, _ => none

/-- one operation (not a call of a Go function) -/
def opA (T : Nat → Option TI) (st : St) : Op → Option (V × St)
  | .move x => some (val st x, st)
  | .assign x => some (val st x, st)
  | .pick c x y => match val st c with | .bool v => some (if v then val st x else val st y, st) | _ => none
  | .nilCheck x => match val st x with
    | .ptr id i j => some (.ptr id i j, st)
    | .fp xs => some (.fp xs, st)
    | .clo (.func f) xs ys => some (.clo (.func f) xs ys, st)
    | _ => none
  | .binOp op t x y _ => match opBin T op t (val st x) (val st y) with | some r => some (r, st) | none => none
  | .unOp .not _ x => match val st x with | .bool v => some (.bool (!v), st) | _ => none
  | .unOp .neg _ x => match val st x with | .int k n => some (.int k (k.wrap (0 - n)), st) | _ => none
  | .convert s t x => match opConv T s t (val st x) with | some r => some (r, st) | none => none
  | .extract x j => match val st x with | .tup xs => (match xs[j]? with | some v => some (v, st) | none => none) | _ => none
  | .index t x y => match opIndex T t (val st x) (val st y) with | some r => some (r, st) | none => none
  | .fieldAddr s x f => match opFieldAddr T s f (val st x) with | some r => some (r, st) | none => none
  | .indexAddr t x y => match opIndexAddr T st.ob t (val st x) (val st y) with | some r => some (r, st) | none => none
  | .load t p => match opLoad T st.ob t (val st p) with | some r => some (r, st) | none => none
  | .alloc t => match T t with
    | some ti => if okCells ti.zero.cells then some (.ptr st.ob.length 0 0, ⟨st.tm, st.ob ++ [some (ti.zero.cells.length, [ti.zero])]⟩) else none
    | none => none
  | .box _ y => if okCells (val st y).cells then some (.ptr st.ob.length 0 0, ⟨st.tm, st.ob ++ [some ((val st y).cells.length, [val st y])]⟩) else none
  | .store t p y => match T t with
    | some ti => match val st p with
      | .ptr id i j => match st.ob[id]? with
        | some (some (k, xs)) =>
          if i < xs.length ∧ (val st y).cells.length = ti.size ∧ 0 < ti.size ∧ okCells (val st y).cells = true ∧ j + ti.size ≤ (xs.getD i .junk).cells.length then
            some (.tup [], ⟨st.tm, st.ob.set id (some (k, xs.set i (setC (xs.getD i .junk) j (val st y).cells)))⟩) else none
        | _ => none
      | _ => none
    | none => none
  | _ => none

section
variable {P : Program} {X : Ctx} {st : St} {o : Oper} {T : Nat → Option TI}

theorem opA_ok (hT : TOK P T) {x : V} {st' : St} (h : opA T st o.op = some (x, st')) : OKo P X st o x st' := by
  cases ho : o.op <;> rw [ho] at h <;> simp only [opA] at h <;> try (cases h; done)
  case move => cases h; exact (ok_move (.inl ho)).ok
  case assign => cases h; exact (ok_move (.inr ho)).ok
  case pick =>
    split at h
    · rename_i hv; cases h; exact (ok_pick ho hv).ok
    · cases h
  case nilCheck =>
    split at h
    · rename_i hv; cases h; rw [← hv]; exact (ok_nilCheck ho (.inl ⟨_, _, _, hv⟩)).ok
    · rename_i hv; cases h; rw [← hv]; exact (ok_nilCheck ho (.inr (.inl ⟨_, hv⟩))).ok
    · rename_i hv; cases h; rw [← hv]; exact (ok_nilCheck ho (.inr (.inr ⟨_, _, _, hv⟩))).ok
    · cases h
  case binOp op t p q t' =>
    split at h
    · rename_i r hr
      cases h
      unfold opBin at hr
      split at hr
      · rename_i k p k' q hx hy
        split at hr
        · exact (ok_shft ho hx hy hr).ok
        · exact (ok_shft ho hx hy hr).ok
        · split at hr
          · rename_i hk; subst hk; exact (ok_arith ho hx hy hr).ok
          · cases hr
      · rename_i hx hy; exact (ok_str ho hx hy hr).ok
      · rename_i hx hy
        split at hr
        · rename_i ti ht
          split at hr
          · rename_i hk; cases hr; exact (ok_boolEq hT ht hk ho (.inl rfl) hx hy).ok
          · rename_i hk; cases hr; exact (ok_boolEq hT ht hk ho (.inr rfl) hx hy).ok
          · cases hr
        · cases hr
      · cases hr
    · cases h
  case unOp op t p =>
    cases op <;> simp only at h <;> try (cases h; done)
    · split at h
      · rename_i hv; cases h; exact (ok_neg ho hv).ok
      · cases h
    · split at h
      · rename_i hv; cases h; exact (ok_not ho hv).ok
      · cases h
  case convert s t p =>
    split at h
    · rename_i r hr
      cases h
      unfold opConv at hr
      split at hr
      · rename_i si ti hs ht
        split at hr
        · rename_i hk hx; cases hr; exact (ok_conv hT ht hk hs ho hx).ok
        · rename_i hk1 hk2 hx; cases hr; exact (ok_convS hT ht hk2 hs hk1 ho hx).ok
        · cases hr
      · cases hr
    · cases h
  case extract =>
    split at h
    · rename_i hv
      split at h
      · rename_i hj; cases h; exact (ok_extract ho hv hj).ok
      · cases h
    · cases h
  case index =>
    split at h
    · rename_i r hr
      cases h
      unfold opIndex at hr
      split at hr
      · rename_i ti ht
        split at hr
        · rename_i hk
          split at hr
          · rename_i hx hy
            split at hr
            · rename_i hc; cases hr; exact (ok_indexS hT ht hk ho hx hy hc.1 hc.2).ok
            · cases hr
          · cases hr
        · cases hr
      · cases hr
    · cases h
  case fieldAddr =>
    split at h
    · rename_i r hr
      cases h
      unfold opFieldAddr at hr
      split at hr
      · rename_i ti ht
        split at hr
        · rename_i fs hk
          split at hr
          · rename_i off ft hf
            split at hr
            · rename_i fi hft
              split at hr
              · cases hr
              · rename_i hs
                split at hr
                · rename_i hx; cases hr; exact (ok_fieldAddr hT ho ht hk hf hft hs hx).ok
                · rename_i hx
                  split at hr
                  · rename_i hl; cases hr; exact (ok_fieldAddrF hT ho ht hk hf hft hs hx hl).ok
                  · cases hr
                · cases hr
            · cases hr
          · cases hr
        · cases hr
      · cases hr
    · cases h
  case indexAddr =>
    split at h
    · rename_i r hr
      cases h
      unfold opIndexAddr at hr
      split at hr
      · rename_i ti ht
        split at hr
        · rename_i e hk
          split at hr
          · rename_i ei he
            split at hr
            · rename_i hx hy
              split at hr
              · rename_i hsz
                split at hr
                · rename_i hc; cases hr; subst hsz; exact (ok_indexAddr hT ho ht hk he hx hy hc.1 hc.2).ok
                · cases hr
              · cases hr
            · rename_i hx hy
              split at hr
              · rename_i k xs hid
                split at hr
                · rename_i hsz
                  split at hr
                  · rename_i hc; cases hr; subst hsz; exact (ok_indexAddrA hT ho ht hk he hx hid hy hc.1 hc.2).ok
                  · cases hr
                · cases hr
              · cases hr
            · cases hr
          · cases hr
        · cases hr
      · cases hr
    · cases h
  case load =>
    split at h
    · rename_i r hr
      cases h
      unfold opLoad at hr
      split at hr
      · rename_i ti ht
        split at hr
        · rename_i hp; exact (ok_loadF hT ho ht hp hr).ok
        · rename_i id i j hp
          split at hr
          · rename_i k xs hid
            split at hr
            · rename_i hc
              split at hr
              · rename_i y hy
                split at hr
                · rename_i hf; cases hr; exact (ok_load (L := [id]) hT ho ht hp hid hc.1 hc.2 hy hf (by simp)).okL
                · cases hr
              · cases hr
            · cases hr
          · cases hr
        · cases hr
      · cases hr
    · cases h
  case alloc =>
    split at h
    · rename_i ti ht
      split at h
      · rename_i hc; cases h; exact ok_alloc hT ho ht hc
      · cases h
    · cases h
  case box =>
    split at h
    · rename_i hc; cases h; exact ok_box ho hc
    · cases h
  case store =>
    split at h
    · rename_i ti ht
      split at h
      · rename_i id i j hp
        split at h
        · rename_i k xs hid
          split at h
          · rename_i hc; cases h; exact ok_store hT ho ht hp hid hc.1 hc.2.1 hc.2.2.1 hc.2.2.2.1 hc.2.2.2.2
          · cases h
        · cases h
      · cases h
    · cases h

/-- operations as far as they go -/
def runA (T : Nat → Option TI) (ops : Array Oper) : List Oper → St → List Oper × St
  | [], st => ([], st)
  | o :: rest, st => match gd ops st o.guard with
    | some true => match opA T st o.op with
      | some (x, st') => runA T ops rest ⟨setD o.dst x st'.tm, st'.ob⟩
      | none => (o :: rest, st)
    | some false => runA T ops rest ⟨setD o.dst (.tup []) st.tm, st.ob⟩
    | none => (o :: rest, st)

theorem WL_run (hT : TOK P T) {ops : Array Oper} {Q : Exit → St → Prop} : ∀ (l : List Oper) (st : St) {l' : List Oper} {st' : St}, runA T ops l st = (l', st') → WL P X ops l' st' Q → WL P X ops l st Q
  | [], st, l', st', h, hk => by simp only [runA] at h; cases h; exact hk
  | o :: rest, st, l', st', h, hk => by
    simp only [runA] at h
    split at h
    · rename_i hg
      split at h
      · rename_i x st2 hx
        exact WL_op (opA_ok hT hx) hg (WL_run hT rest _ h hk)
      · cases h; exact hk
    · rename_i hg
      exact WL_skip hg (WL_run hT rest _ h hk)
    · cases h; exact hk

end
end Go.Ev
namespace Go.Ev
open Go

def J.jk (p : Nat → Bool) : J → J
  | .one x u => .one (x.jk p) u
  | .cells b o xs => .cells b o (jkL p xs)
  | .list xs us => .list (jkL p xs) us

theorem jkL_append (p : Nat → Bool) (xs ys : List V) : jkL p (xs ++ ys) = jkL p xs ++ jkL p ys := by simp [jkL_map]
theorem jk_cells (p : Nat → Bool) (x : V) : (x.jk p).cells = jkL p x.cells := by
  cases x with
  | ptr id i j => simp only [V.jk, V.cells, jkL]; cases p id <;> rfl
  | arr id o n => simp only [V.jk, V.cells, jkL]; cases p id <;> rfl
  | _ => rfl
theorem jkL_flat (p : Nat → Bool) (xs : List V) : flat (jkL p xs) = jkL p (flat xs) := by
  induction xs with
  | nil => rfl
  | cons x xs ih => rw [jkL, flat_cons, flat_cons, ih, jkL_append, jk_cells]
theorem uni_jkL {k : Nat} {xs : List V} (h : uni k xs) (p : Nat → Bool) : uni k (jkL p xs) := by
  intro x hx
  rw [jkL_map] at hx
  obtain ⟨y, hy, rfl⟩ := List.mem_map.1 hx
  rw [jk_cells, jkL_map, List.length_map]
  exact h y hy

mutual
theorem jk_pure (p : Nat → Bool) : ∀ (x : V), x.pure = true → x.jk p = x
  | .agg xs, h => by simp only [V.jk]; rw [jkL_pure p xs (by simpa [V.pure] using h)]
  | .tup xs, h => by simp only [V.jk]; rw [jkL_pure p xs (by simpa [V.pure] using h)]
  | .clo f xs ys, h => by
    simp only [V.pure, Bool.and_eq_true] at h
    simp only [V.jk]; rw [jkL_pure p xs h.1, jkL_pure p ys h.2]
  | .ifc t x, h => by simp only [V.jk]; rw [jk_pure p x (by simpa [V.pure] using h)]
  | .ptr _ _ _, h => by simp [V.pure] at h
  | .arr _ _ _, h => by simp [V.pure] at h
  | .junk, _ => rfl
  | .bool _, _ => rfl
  | .int _ _, _ => rfl
  | .str _, _ => rfl
  | .raw _, _ => rfl
  | .lst _ _ _, _ => rfl
  | .bx _ _, _ => rfl
  | .fp _, _ => rfl
  | .fmap _, _ => rfl
theorem jkL_pure (p : Nat → Bool) : ∀ (xs : List V), pureL xs = true → jkL p xs = xs
  | [], _ => rfl
  | x :: xs, h => by
    simp only [pureL, Bool.and_eq_true] at h
    rw [jkL, jk_pure p x h.1, jkL_pure p xs h.2]
end

section
variable {w : World} {fr : Nat → Prop} {m : Mp}

theorem R.jk {p : Nat → Bool} {m' : Mp} (hm : ∀ id, p id = false → m' id = m id) {j : J} {c : Cnt} (h : R w fr m j c) : R w fr m' (j.jk p) c := by
  induction h with
  | junk => exact .junk
  | bool => exact .bool _
  | int => exact .int _ _
  | str => exact .str _
  | raw u h => exact .raw u h
  | agg _ ih => exact .agg (ih hm)
  | tup _ ih => exact .tup (ih hm)
  | nil => exact .nil
  | nilz => exact .nilz
  | frz hl hb hk hn h _ => exact .frz hl hb hk hn h
  | own hb hs hk hn h hc _ => exact .own hb hs hk hn h hc
  | bx hb hs hk h hc _ => exact .bx hb hs hk h hc
  | fp hl hb h _ => exact .fp hl hb h
  | fmap hl hb he h => exact .fmap hl hb he h
  | @ptr m id i j b k h =>
    show R w fr m' (.one (V.jk p (.ptr id i j)) _) _
    simp only [V.jk]
    cases hp : p id
    · exact .ptr (by rw [hm _ hp]; exact h)
    · exact .junk
  | @arr m id o n b k cap cur e h h1 h2 h3 =>
    show R w fr m' (.one (V.jk p (.arr id o n)) _) _
    simp only [V.jk]
    cases hp : p id
    · exact .arr (by rw [hm _ hp]; exact h) h1 h2 h3
    · exact .junk
  | @arrz m id o b k cap cur e off h h1 h2 =>
    show R w fr m' (.one (V.jk p (.arr id o 0)) _) _
    simp only [V.jk]
    cases hp : p id
    · exact .arrz (by rw [hm _ hp]; exact h) h1 h2
    · exact .junk
  | @arrn m id o =>
    show R w fr m' (.one (V.jk p (.arr id o 0)) _) _
    simp only [V.jk]
    cases hp : p id
    · exact .arrn
    · exact .junk
  | clo h1 h2 he ih1 ih2 => exact .clo (ih1 hm) (ih2 hm) he
  | ifc h ih => exact .ifc (ih hm)
  | cnil => exact .cnil
  | ccons hc h1c h1 h2 he ih1 ih2 => exact .ccons hc h1c (ih1 hm) (ih2 hm) he
  | lnil => exact .lnil
  | lcons h1 h2 he ih1 ih2 => exact .lcons (ih1 hm) (ih2 hm) he

end

section
variable {X : Ctx} {w : World} {ob : List Ob} {m : Mp} {cn : Nat → Cnt}

theorem obOK.jk {p : Nat → Bool} {m' : Mp} {fr : Nat → Prop} {cnt : Cnt} {id : Nat} {o : Ob} (hm : ∀ id, p id = false → m' id = m id) (hid : m' id = m id) (h : obOK w fr m cnt id o) : obOK w fr m' cnt id (jkO p o) := by
  cases o with
  | none => trivial
  | some q =>
    obtain ⟨k, xs⟩ := q
    rcases h with ⟨h1, h2, h3⟩ | ⟨b, cur, e, c, h1, h2, h3, h4, h5, h6⟩
    · exact .inl ⟨by rw [h1]; rfl, by rw [hid]; exact h2, h3⟩
    · exact .inr ⟨b, cur, e, c, by rw [hid]; exact h1, h2, uni_jkL h3 p, by rw [jkL_map, List.length_map]; exact h4, by rw [jkL_flat]; exact R.jk hm h5, h6⟩

/-- references to some objects are forgotten -/
theorem Inv.jk (hi : Inv X w ob m cn) (p : Nat → Bool) : Inv X w (ob.map (jkO p)) m cn :=
  ⟨hi.le, hi.kept, hi.os, hi.tape, hi.output, fun i o ho => by
      rw [List.getElem?_map] at ho
      cases h : ob[i]? with
      | none => rw [h] at ho; cases ho
      | some o' => rw [h] at ho; cases ho; exact (hi.obj i o' h).jk (fun _ _ => rfl) rfl,
    hi.dis, hi.one, hi.new, fun i h => hi.fresh i (by simpa using h), hi.pas, hi.mlt, by simpa using hi.n0, hi.shp⟩

theorem Inv.drew (hi : Inv X w ob m cn) : Inv X w.drew ob m cn :=
  ⟨hi.le, hi.kept, hi.os, hi.tape, hi.output, fun i o ho => by
      have := hi.obj i o ho
      cases o with
      | none => trivial
      | some q =>
        obtain ⟨k, xs⟩ := q
        rcases this with h | ⟨b, cur, e, c, h1, h2, h3, h4, h5, h6⟩
        · exact .inl h
        · exact .inr ⟨b, cur, e, c, h1, h2, h3, h4, h5.mono (Nat.le_refl _) (fun _ _ h => ⟨h, rfl⟩) (fun _ _ => rfl) (.inr rfl) (fun _ _ h => ⟨h, rfl⟩), h6⟩,
    hi.dis, hi.one, hi.new, hi.fresh, hi.pas, hi.mlt, hi.n0, hi.shp⟩

theorem Ext.drew : Ext X w m cn w.drew m cn := ⟨Nat.le_refl _, fun _ _ h => ⟨h, rfl⟩, fun _ _ h => ⟨h, rfl⟩⟩

/-- an object moves to a new block -/
theorem Inv.regrow (hi : Inv X w ob m cn) {id k k0 : Nat} {xs xs' : List V} (hid : ob[id]? = some (some (k0, xs))) (hn0 : X.n0 ≤ id) {cells : Array Value} {e : TypeId} (hk : uni k xs') (hl : xs'.length * k ≤ cells.size)
    {us : List Value} {c' : Cnt} (hus : ∀ (j : Nat) (u : Value), us[j]? = some u → cells[j]? = some u) (hR : R w (frz X cn) m (.list (flat xs') us) c') (h1 : ∀ u ∈ us, u.oneCell' = true) (hle : ∀ x, c' x ≤ cn id x) :
    let p : Nat → Bool := fun i => i == id
    let m' := upd m id (some (w.heap.size, k))
    let cn' := upd cn id (fun x => c' x + if x = w.heap.size then 1 else 0)
    Inv X (w.alloc (.cells cells e)) ((ob.map (jkO p)).set id (some (k, jkL p xs'))) m' cn' ∧
      (∀ (j : J), j.here (fun _ => False) → R w (frz X cn) m j z0 → R (w.alloc (.cells cells e)) (frz X cn') m' (j.jk p) z0) := by
  intro p m' cn'
  have hlt := (List.getElem?_eq_some_iff.1 hid).1
  have hold : ∀ b, b < w.heap.size → (w.alloc (.cells cells e)).heap[b]? = w.heap[b]? := fun b hb => heap_alloc_old w _ hb
  have hnew := heap_alloc_new w (.cells cells e)
  have e1 : cn' id = fun x => c' x + if x = w.heap.size then 1 else 0 := upd_same _ _ _
  have e2 : ∀ i, i ≠ id → cn' i = cn i := fun i h => upd_other _ _ h
  have m1 : m' id = some (w.heap.size, k) := upd_same _ _ _
  have m2 : ∀ i, i ≠ id → m' i = m i := fun i h => upd_other _ _ h
  have hpm : ∀ i, p i = false → m' i = m i := fun i h => m2 i (by simpa [p] using h)
  have hpos : ∀ i x, 0 < cn' i x → 0 < cn i x ∨ (i = id ∧ x = w.heap.size) := by
    intro i x h
    by_cases hh : i = id
    · subst hh
      rw [e1] at h
      by_cases hx : x = w.heap.size
      · exact .inr ⟨rfl, hx⟩
      · simp only [if_neg hx] at h
        have := hle x
        exact .inl (by omega)
    · rw [e2 i hh] at h; exact .inl h
  have hbig : ∀ i x, 0 < cn i x → x ≠ w.heap.size := fun i x h => by have := (hi.new i x h).1; omega
  have hfr : ∀ b, b < w.heap.size → frz X cn b → frz X cn' b ∧ (w.alloc (.cells cells e)).heap[b]? = w.heap[b]? := by
    intro b hb hf
    refine ⟨⟨hf.1, fun i => ?_⟩, hold b hb⟩
    rcases Nat.eq_zero_or_pos (cn' i b) with h | h
    · exact h
    · rcases hpos i b h with h | ⟨_, h⟩
      · have := hf.2 i; omega
      · omega
  have tr : ∀ {j : J} {c : Cnt}, R w (frz X cn) m j c → j.here (fun b => b < w.heap.size) → R (w.alloc (.cells cells e)) (frz X cn') m' (j.jk p) c := by
    intro j c h hh
    refine R.jk hpm (h.mono (by rw [alloc_size]; omega) hfr (fun b hb => hold b (h.count b hb)) ?_ (fun i x hx => ⟨hx, shape_of_heap (hold _ (hi.mlt i x hx))⟩))
    cases j <;> first | trivial | exact hh.imp (fun h => h) (hold _)
  refine ⟨⟨by rw [alloc_size]; have := hi.le; omega, fun b hb ho => by rw [hold b (by have := hi.le; omega)]; exact hi.kept b hb ho, hi.os, hi.tape, hi.output, fun i o ho => ?_, fun b i j h1 h2 => ?_, fun i x => ?_, fun i x h => ?_,
    fun i h => ?_, fun i h => by rw [m2 i (by omega)]; exact hi.pas i h, fun i x h => ?_, by simpa using hi.n0, fun b hb => by rw [shape_of_heap (hold b (by have := hi.le; omega))]; exact hi.shp b hb⟩,
    fun j hj h => tr h (by cases j <;> first | trivial | exact hj.imp (fun h => h) False.elim)⟩
  · by_cases hh : i = id
    · subst hh
      rw [List.getElem?_set_self (by simpa using hlt)] at ho
      cases ho
      have hRl := tr hR trivial
      refine .inr ⟨w.heap.size, cells, e, c', m1, hnew, uni_jkL hk p, by rw [jkL_map, List.length_map]; exact hl, ?_, fun x => by rw [e1]⟩
      rw [jkL_flat]
      refine R.holds hRl (fun j u hu => ?_) h1
      simp only [World.cell?, hnew, Nat.zero_add]
      simpa using hus j u hu
    · rw [List.getElem?_set_ne (Ne.symm hh), List.getElem?_map] at ho
      cases hO : ob[i]? with
      | none => rw [hO] at ho; cases ho
      | some o' =>
        rw [hO] at ho
        cases ho
        have hob := hi.obj i o' hO
        cases o' with
        | none => trivial
        | some q =>
          obtain ⟨k', ys⟩ := q
          rcases hob with ⟨h1, h2, h3⟩ | ⟨b, cur, e', c, h1, h2, h3, h4, h5, h6⟩
          · exact .inl ⟨by rw [h1]; rfl, by rw [m2 i hh]; exact h2, by rw [e2 i hh]; exact h3⟩
          · have hb : b < w.heap.size := (Array.getElem?_eq_some_iff.1 h2).1
            refine .inr ⟨b, cur, e', c, by rw [m2 i hh]; exact h1, by rw [hold b hb]; exact h2, uni_jkL h3 p, by rw [jkL_map, List.length_map]; exact h4, ?_, by rw [e2 i hh]; exact h6⟩
            rw [jkL_flat]
            exact tr h5 (.inr hb)
  · rcases hpos i b h1 with a1 | ⟨a1, a2⟩ <;> rcases hpos j b h2 with b1 | ⟨b1, b2⟩
    · exact hi.dis b i j a1 b1
    · exact absurd b2 (hbig i b a1)
    · exact absurd a2 (hbig j b b1)
    · rw [a1, b1]
  · by_cases hh : i = id
    · subst hh
      rw [e1]
      by_cases hx : x = w.heap.size
      · have := hle x
        have h0 : cn i x = 0 := by
          rcases Nat.eq_zero_or_pos (cn i x) with h | h
          · exact h
          · exact absurd hx (hbig i x h)
        simp only [if_pos hx]; omega
      · have := hle x; have := hi.one i x; simp only [if_neg hx]; omega
    · rw [e2 i hh]; exact hi.one i x
  · rw [alloc_size]
    rcases hpos i x h with h | ⟨_, h⟩
    · have := hi.new i x h; exact ⟨by omega, this.2⟩
    · exact ⟨by omega, .inl (by rw [h]; exact hi.le)⟩
  · simp at h
    rw [m2 i (by omega)]
    exact hi.fresh i h
  · rw [alloc_size]
    by_cases hh : i = id
    · subst hh; rw [m1] at h; cases h; simp
    · rw [m2 i hh] at h; have := hi.mlt i x h; omega

end
end Go.Ev
namespace Go.Ev
open Go

section
variable {P : Program} {X : Ctx} {L : List Nat} {st : St} {o : Oper} {T : Nat → Option TI}

/-- the bounds of a slice expression: each is there or not -/
def bnd (st : St) : Option Operand → Option (Option Nat)
  | none => some none
  | some x => match val st x with
    | .int _ n => if 0 ≤ n then some (some n.toNat) else none
    | _ => none

theorem bnd_ok {w : World} {m : Mp} {cn : Nat → Cnt} {a : Act} (hs : Sl X w m cn st.tm a) {x : Option Operand} {r : Option Nat} (h : bnd st x = some r) :
    (r = none ∧ x.map a.eval = none) ∨ ∃ n k, r = some n ∧ x.map a.eval = some (.int k (n : Int)) := by
  cases x with
  | none => simp only [bnd] at h; cases h; exact .inl ⟨rfl, rfl⟩
  | some x =>
    simp only [bnd] at h
    split at h
    · rename_i k n hv
      split at h
      · rename_i h0
        cases h
        have := val_ok hs x
        rw [hv] at this
        exact .inr ⟨n.toNat, k, rfl, by rw [Option.map_some, R.inv_int this, Int.toNat_of_nonneg h0]⟩
      · cases h
    · cases h

theorem run_bounds (isS : Bool) (len cap : Nat) (l h x : Option Nat) (vl vh vx : Option Value) (hl : (l = none ∧ vl = none) ∨ ∃ n k, l = some n ∧ vl = some (.int k (n : Int)))
    (hh : (h = none ∧ vh = none) ∨ ∃ n k, h = some n ∧ vh = some (.int k (n : Int))) (hx : (x = none ∧ vx = none) ∨ ∃ n k, x = some n ∧ vx = some (.int k (n : Int)))
    (h1 : x.getD cap ≤ cap) (h2 : h.getD len ≤ x.getD cap) (h3 : l.getD 0 ≤ h.getD len) (h4 : x.isSome → h.isSome) (w : World) :
    (Instr.sliceBounds isS len cap vl vh vx).run P w = .ok (l.getD 0, h.getD len, x.getD cap) w := by
  have sb : ∀ (n y : Nat) (k : IntKind) (code : BoundsCode), n ≤ y → (Instr.sliceBound (.int k (n : Int)) y code).run P w = .ok n w := by
    intro n y k code h
    have h : (n : Int) ≤ (y : Int) := by omega
    simp [Instr.sliceBound, asIntOf, h]
  rcases hl with ⟨rfl, rfl⟩ | ⟨nl, kl, rfl, rfl⟩ <;> rcases hh with ⟨rfl, rfl⟩ | ⟨nh, kh, rfl, rfl⟩ <;> rcases hx with ⟨rfl, rfl⟩ | ⟨nx, kx, rfl, rfl⟩ <;>
    simp only [Option.getD_none, Option.getD_some] at h1 h2 h3 ⊢ <;>
    first
    | (exfalso; simp at h4; done)
    | (simp only [Instr.sliceBounds, Sem.run_bind, Sem.run_pure, Result.andThen_ok, sb _ _ _ _ h1, sb _ _ _ _ h2, sb _ _ _ _ h3]; done)
    | (simp only [Instr.sliceBounds, Sem.run_bind, Sem.run_pure, Result.andThen_ok, sb _ _ _ _ h2, sb _ _ _ _ h3]; done)
    | (simp only [Instr.sliceBounds, Sem.run_bind, Sem.run_pure, Result.andThen_ok, sb _ _ _ _ h3]; done)
    | (simp only [Instr.sliceBounds, Sem.run_bind, Sem.run_pure, Result.andThen_ok, sb _ _ _ _ h2]; done)
    | (simp only [Instr.sliceBounds, Sem.run_bind, Sem.run_pure, Result.andThen_ok]; done)
    | (simp only [Instr.sliceBounds, Sem.run_bind, Sem.run_pure, Result.andThen_ok, sb _ _ _ _ h1, sb _ _ _ _ h2]; done)

theorem ok_sliceS (hT : TOK P T) {t : Nat} {x : Operand} {lo hi : Option Operand} {ti : TI} (ho : o.op = .slice t x lo hi none) (ht : T t = some ti) (hk : ti.kd = .str) {p : List UInt8} (hx : val st x = .str p)
    {l h : Option Nat} (hl : bnd st lo = some l) (hh : bnd st hi = some h) (h2 : h.getD p.length ≤ p.length) (h3 : l.getD 0 ≤ h.getD p.length) : OKp P X L st o (.str ((p.take (h.getD p.length)).drop (l.getD 0))) := by
  intro w m cn a hi' hs
  have h1 := val_ok hs x
  rw [hx] at h1
  obtain ⟨i, d, z, _, hu, _, hd, _⟩ := TI.of hT ht
  rw [hk] at hd
  have := kd_str hd
  subst this
  have hb := run_bounds (P := P) false p.length p.length l h none _ _ none (bnd_ok hs hl) (bnd_ok hs hh) (.inl ⟨rfl, rfl⟩) (Nat.le_refl _) h2 h3 (by simp)
  have hsz : (⟨p.toArray⟩ : ByteArray).size = p.length := by show p.toArray.size = _; simp
  refine ⟨.string ⟨((p.take (h.getD p.length)).drop (l.getD 0)).toArray⟩, fun w _ => ?_, .str _⟩
  have hr : (Instr.sliceAt t (.string ⟨p.toArray⟩) (lo.map a.eval) (hi.map a.eval) none).run P w = .ok (.string ⟨((p.take (h.getD p.length)).drop (l.getD 0)).toArray⟩) w := by
    simp only [Instr.sliceAt, Instr.slice, Sem.run_bind, run_underlying hu, Result.andThen_ok, Option.isSome_none, Bool.false_eq_true, if_false, hsz, hb, Sem.run_pure]
    congr 2
    apply ByteArray.ext
    rw [ByteArray.data_extract]
    apply Array.ext'
    simp [List.drop_take]
  simp only [execOp, ho, R.inv_str h1, Option.map_none, hr, Sem.run_bind, Result.andThen_ok, Sem.run_pure]

theorem run_sliceL (hT : TOK P T) {t e : Nat} {ti ei : TI} (ht : T t = some ti) (hk : ti.kd = .slice e) (he : T e = some ei) (ad : Option Addr) (len cap : Nat) (vl vh vx : Option Value) (l h x : Nat) (w : World)
    (hb : (Instr.sliceBounds true len cap vl vh vx).run P w = .ok (l, h, x) w) :
    (Instr.sliceAt t (.slice ad len cap) vl vh vx).run P w = .ok (.slice (if x = l then ad else ad.map (·.add (l * ei.size))) (h - l) (x - l)) w := by
  obtain ⟨i, d, z, _, hu, _, hd, _⟩ := TI.of hT ht
  obtain ⟨i2, d2, z2, hi2, _, _, _, hsz, _⟩ := TI.of hT he
  rw [hk] at hd
  have := kd_slice hd
  subst this
  simp only [Instr.sliceAt, Instr.slice, Sem.run_bind, run_underlying hu, Result.andThen_ok, hb, run_sizeOf hi2, ← hsz, Sem.run_pure]

theorem ok_sliceL (hT : TOK P T) {t e : Nat} {x : Operand} {lo hi mx : Option Operand} {ti ei : TI} (ho : o.op = .slice t x lo hi mx) (ht : T t = some ti) (hk : ti.kd = .slice e) (he : T e = some ei)
    {ow : Bool} {xs : List V} (hx : val st x = .lst ow ei.size xs)
    {l h q : Option Nat} (hl : bnd st lo = some l) (hh : bnd st hi = some h) (hq : bnd st mx = some q) (h1 : q.getD xs.length ≤ xs.length) (h2 : h.getD xs.length ≤ q.getD xs.length) (h3 : l.getD 0 ≤ h.getD xs.length)
    (h4 : q.isSome → h.isSome) : OKp P X L st o (.lst false ei.size ((xs.take (h.getD xs.length)).drop (l.getD 0))) := by
  intro w m cn a hi' hs
  have hR := val_ok hs x
  rw [hx] at hR
  rcases R.inv_lst hR with ⟨rfl, ad, hu⟩ | ⟨b, off, cap, hu, hcap, hb, hfr, huni, hc⟩
  · have hz : q.getD 0 ≤ 0 := by simpa using h1
    have hb := run_bounds (P := P) true 0 0 l h q _ _ _ (bnd_ok hs hl) (bnd_ok hs hh) (bnd_ok hs hq) hz (by simpa using h2) (by simpa using h3) h4
    have hr := fun w => run_sliceL hT ht hk he ad 0 0 _ _ _ _ _ _ w (hb w)
    refine ⟨.slice ad 0 0, fun w _ => ?_, by cases ad <;> simpa using (by first | exact R.nil | exact R.nilz)⟩
    simp only [execOp, ho, hu, hr, Sem.run_bind, Result.andThen_ok, Sem.run_pure]
    simp at h1 h2 h3
    have e1 : q.getD 0 = 0 := by omega
    have e2 : l.getD 0 = 0 := by omega
    have e3 : h.getD 0 = 0 := by omega
    simp [e1, e2, e3]
  · have hqc : q.getD cap ≤ cap := by cases q <;> simp at h1 ⊢; omega
    have hhq : h.getD xs.length ≤ q.getD cap := by cases q <;> simp at h2 ⊢ <;> omega
    have hbd := run_bounds (P := P) true xs.length cap l h q _ _ _ (bnd_ok hs hl) (bnd_ok hs hh) (bnd_ok hs hq) hqc hhq h3 h4
    have hr := fun w => run_sliceL hT ht hk he (some ⟨b, off, none⟩) xs.length cap _ _ _ _ _ _ w (hbd w)
    generalize l.getD 0 = L at *
    generalize hH : h.getD xs.length = H at *
    generalize q.getD cap = Q at *
    have hHn : H ≤ xs.length := by omega
    have hlen : ((xs.take H).drop L).length = H - L := by rw [List.length_drop, List.length_take]; omega
    have hsub : uni ei.size ((xs.take H).drop L) := uni_drop (uni_take huni H) L
    refine ⟨.slice (if Q = L then some ⟨b, off, none⟩ else (some ⟨b, off, none⟩ : Option Addr).map (·.add (L * ei.size))) (H - L) (Q - L), fun w _ => by simp only [execOp, ho, hu, hr, Sem.run_bind, Result.andThen_ok, Sem.run_pure], ?_⟩
    by_cases hQL : Q = L
    · rw [if_pos hQL]
      have h0 : (xs.take H).drop L = [] := List.eq_nil_of_length_eq_zero (by omega)
      rw [h0, show H - L = ([] : List V).length from by simp; omega]
      exact .frz hb hfr (fun x hx => by simp at hx) (by simp) .cnil
    · rw [if_neg hQL]
      simp only [Option.map_some, add_none]
      rw [← hlen]
      have hc2 : R w (frz X cn) noIds (.cells b (off + L * ei.size) (flat ((xs.take H).drop L))) z0 := by
        rw [flat_take H] at hc
        obtain ⟨c1, c2, g1, _, g3⟩ := R.split hc
        rw [flat_take L] at g1
        obtain ⟨c3, c4, _, g5, g6⟩ := R.split g1
        have : (flat ((xs.take H).take L)).length = L * ei.size := flat_take_length (uni_take huni H) (by rw [List.length_take]; omega)
        rw [this] at g5
        exact g5.zero fun z => by have := g3 z; have := g6 z; simp [z0] at *; omega
      exact .frz hb hfr hsub (by omega) hc2

theorem ok_sliceA (hT : TOK P T) {t e : Nat} {x : Operand} {lo hi mx : Option Operand} {ti ei : TI} (ho : o.op = .slice t x lo hi mx) (ht : T t = some ti) (hk : ti.kd = .slice e) (he : T e = some ei)
    {id off n : Nat} (hx : val st x = .arr id off n) {xs : List V} (hid : st.ob[id]? = some (some (ei.size, xs)))
    {l h q : Option Nat} (hl : bnd st lo = some l) (hh : bnd st hi = some h) (hq : bnd st mx = some q) (h1 : q.getD n ≤ n) (h2 : h.getD n ≤ q.getD n) (h3 : l.getD 0 ≤ h.getD n)
    (h4 : q.isSome → h.isSome) : OKp P X L st o (.arr id (off + l.getD 0) (h.getD n - l.getD 0)) := by
  intro w m cn a hi' hs
  have hR := val_ok hs x
  rw [hx] at hR
  rcases R.inv_arr hR with ⟨rfl, ad, hu⟩ | ⟨b, k, o', cap, cur, e', hu, hcap, hm, hsh, hor⟩
  · have hb := run_bounds (P := P) true 0 0 l h q _ _ _ (bnd_ok hs hl) (bnd_ok hs hh) (bnd_ok hs hq) h1 h2 h3 h4
    have hr := fun w => run_sliceL hT ht hk he ad 0 0 _ _ _ _ _ _ w (hb w)
    refine ⟨.slice ad 0 0, fun w _ => ?_, ?_⟩
    · simp only [execOp, ho, hu, hr, Sem.run_bind, Result.andThen_ok, Sem.run_pure]
      simp at h1 h2 h3
      have e1 : q.getD 0 = 0 := by omega
      have e2 : l.getD 0 = 0 := by omega
      have e3 : h.getD 0 = 0 := by omega
      simp [e1, e2, e3]
    · rw [show h.getD 0 - l.getD 0 = 0 from by omega]; exact .arrn
  · obtain ⟨rfl, _⟩ := hi'.object hid hm
    have hqc : q.getD cap ≤ cap := by cases q <;> simp at h1 ⊢; omega
    have hhq : h.getD n ≤ q.getD cap := by cases q <;> simp at h2 ⊢ <;> omega
    have hbd := run_bounds (P := P) true n cap l h q _ _ _ (bnd_ok hs hl) (bnd_ok hs hh) (bnd_ok hs hq) hqc hhq h3 h4
    have hr := fun w => run_sliceL hT ht hk he (some ⟨b, o', none⟩) n cap _ _ _ _ _ _ w (hbd w)
    have hHn : h.getD n ≤ n := by omega
    generalize l.getD 0 = L at *
    generalize h.getD n = H at *
    generalize q.getD cap = Q at *
    refine ⟨.slice (if Q = L then some ⟨b, o', none⟩ else (some ⟨b, o', none⟩ : Option Addr).map (·.add (L * ei.size))) (H - L) (Q - L), fun w _ => by simp only [execOp, ho, hu, hr, Sem.run_bind, Result.andThen_ok, Sem.run_pure], ?_⟩
    rcases hor with ⟨rfl, hoff⟩ | ⟨rfl, hc⟩
    · have hH0 : H = 0 := by omega
      have hL0 : L = 0 := by omega
      subst hH0 hL0
      by_cases hQ : Q = 0
      · rw [if_pos hQ]; exact .arrz hm hsh (by omega)
      · rw [if_neg hQ]; simp only [Option.map_some, add_none]; exact .arrz hm hsh (by omega)
    · by_cases hQL : Q = L
      · rw [if_pos hQL, show H - L = 0 from by omega]
        by_cases h0 : off + L = 0
        · have e1 : off = 0 := by omega
          have e2 : L = 0 := by omega
          subst e1 e2
          exact .arr hm hsh (by omega) (Nat.le_trans (Nat.mul_le_mul_right _ (by omega)) hc)
        · exact .arrz hm hsh h0
      · rw [if_neg hQL]
        simp only [Option.map_some, add_none]
        rw [← Nat.add_mul]
        exact .arr hm hsh (by omega) (Nat.le_trans (Nat.mul_le_mul_right _ (by omega)) hc)

end
end Go.Ev
namespace Go.Ev
open Go

/-- what an append takes: the elements of a list -/
def srcA (ob : List Ob) : V → Option (Nat × List V)
  | .lst _ k ys => some (k, ys)
  | .arr id off n => match ob[id]? with
    | some (some (k, xs)) => if off + n ≤ xs.length ∧ freeL (flat ((xs.drop off).take n)) = true then some (k, (xs.drop off).take n) else none
    | _ => none
  | _ => none

section
variable {P : Program} {X : Ctx} {st : St} {o : Oper} {T : Nat → Option TI}

theorem srcA_ok {w : World} {m : Mp} {cn : Nat → Cnt} {ob : List Ob} (hi : Inv X w ob m cn) {y : V} {u : Value} (hR : R w (frz X cn) m (.one y u) z0) {k : Nat} {ys : List V} (h : srcA ob y = some (k, ys)) :
    ((∃ ad, u = .slice ad 0 0) ∧ ys = []) ∨ ∃ b off c us, u = .slice (some ⟨b, off, none⟩) ys.length c ∧ us.length = ys.length * k ∧ (∀ (j : Nat) (v : Value), us[j]? = some v → w.cell? ⟨b, off + j, none⟩ = some v) ∧
      R w (frz X cn) m (.list (flat ys) us) z0 ∧ (∀ v ∈ us, v.oneCell' = true) ∧ uni k ys := by
  cases y with
  | lst ow k' xs =>
    simp only [srcA] at h
    cases h
    rcases R.inv_lst hR with ⟨rfl, ad, hu⟩ | ⟨b, off, cap, hu, hcap, hb, hfr, huni, hc⟩
    · exact .inl ⟨⟨ad, hu⟩, rfl⟩
    · obtain ⟨us, h1, h2, h3, h4⟩ := R.reads hc
      refine .inr ⟨b, off, cap, us, hu, by rw [h1, flat_length huni], h3, ?_, h4, huni⟩
      exact h2.mono (Nat.le_refl _) (fun _ _ h => ⟨h, rfl⟩) (fun _ _ => rfl) trivial (fun id x h => by simp [noIds] at h)
  | arr id off n =>
    simp only [srcA] at h
    split at h
    · rename_i k' xs hid
      split at h
      · rename_i hc
        cases h
        have hlen : ((xs.drop off).take n).length = n := by rw [List.length_take, List.length_drop]; omega
        rcases R.inv_arr hR with ⟨rfl, ad, hu⟩ | ⟨b, k2, o', cap, cur, e', hu, hcap, hm, hsh, hor⟩
        · exact .inl ⟨⟨_, hu⟩, by simp⟩
        · obtain ⟨rfl, cells, e, c, h1, h2, h3, h4, h5⟩ := hi.object hid hm
          rcases hor with ⟨rfl, _⟩ | ⟨rfl, _⟩
          · exact .inr ⟨b, o', cap, [], by simpa using hu, by simp, fun j v h => by simp at h, by simpa using .lnil, fun v h => by simp at h, fun x h => by simp at h⟩
          · rw [flat_take off] at h4
            obtain ⟨c1, c2, _, g2, g3⟩ := R.split h4
            rw [flat_take_length h2 (by omega), Nat.zero_add, flat_take n] at g2
            obtain ⟨c3, c4, g4, _, g6⟩ := R.split g2
            have g7 := g4.zero (R.free0 g4 hc.2)
            obtain ⟨us, a1, a2, a3, a4⟩ := R.reads g7
            refine .inr ⟨b, off * k2, cap, us, by rw [hlen]; exact hu, by rw [a1, flat_length (uni_take (uni_drop h2 off) n)], a3, a2, a4, uni_take (uni_drop h2 off) n⟩
      · cases h
    · cases h
  | _ => simp [srcA] at h

theorem run_append_op {t e : Nat} {s x : Operand} {a : Act} {w w' : World} {vs vx v : Value} (ho : o.op = .call { callee := .builtin .append, args := #[s, x], argTypes := #[t, e] }) (hs : a.eval s = vs) (hx : a.eval x = vx)
    (h : (Builtin.append_ #[t, e] o.type #[vs, vx]).run P w = .ok v w') : (execOp a.eval o).run P w = .ok (.value v) w' := by
  simp only [execOp, ho, resolve, invoke, builtin, Sem.run_bind, Sem.run_pure, Result.andThen_ok, List.map_toArray, List.map_cons, List.map_nil, hs, hx, h]

/-- nothing is appended -/
theorem run_append_none (hT : TOK P T) {t e : Nat} {ti ei : TI} (ht : T t = some ti) (hk : ti.kd = .slice e) (he : T e = some ei) (ty : TypeId) (base : Option Addr) (n cap : Nat) (hn : n ≤ cap) (w : World) :
    (Builtin.append_ #[t, t] ty #[.slice base n cap, .slice none 0 0]).run P w = .ok (.slice base n cap) w := by
  obtain ⟨i, d, z, _, hu, _, hd, _⟩ := TI.of hT ht
  obtain ⟨i2, d2, z2, hi2, _, _, _, hsz, _⟩ := TI.of hT he
  rw [hk] at hd
  have := kd_slice hd
  subst this
  cases base <;> simp [Builtin.append_, run_underlying hu, run_sizeOf hi2, Builtin.lenOf, hn, Builtin.firstCells, storeCells]

theorem run_append_zero (hT : TOK P T) {t e : Nat} {ti ei : TI} (ht : T t = some ti) (hk : ti.kd = .slice e) (he : T e = some ei) (ty : TypeId) (base : Option Addr) (n cap c : Nat) (ad : Addr) (hn : n ≤ cap) (w : World) :
    (Builtin.append_ #[t, t] ty #[.slice base n cap, .slice (some ad) 0 c]).run P w = .ok (.slice base n cap) w := by
  obtain ⟨i, d, z, _, hu, _, hd, _⟩ := TI.of hT ht
  obtain ⟨i2, d2, z2, hi2, _, _, _, hsz, _⟩ := TI.of hT he
  rw [hk] at hd
  have := kd_slice hd
  subst this
  cases base <;> simp [Builtin.append_, run_underlying hu, run_sizeOf hi2, Builtin.lenOf, hn, Builtin.firstCells, storeCells, loadCells, loadCellsFrom]

theorem run_append_empty (hT : TOK P T) {t e : Nat} {ti ei : TI} (ht : T t = some ti) (hk : ti.kd = .slice e) (he : T e = some ei) (ty : TypeId) (base ad : Option Addr) (n cap : Nat) (hn : n ≤ cap) (w : World) :
    (Builtin.append_ #[t, t] ty #[.slice base n cap, .slice ad 0 0]).run P w = .ok (.slice base n cap) w := by
  cases ad with
  | none => exact run_append_none hT ht hk he ty base n cap hn w
  | some ad => exact run_append_zero hT ht hk he ty base n cap 0 ad hn w

theorem ofV_cells {n : Nat} (z : Value) (h : (ofV z).cells.length = n) : z.cells.size = n := by
  cases z with
  | agg cs => simp [ofV, V.cells] at h; simpa [Value.cells] using h
  | _ =>
    have : ∀ v : Value, (ofV1 v).cells.length = 1 := by
      intro v
      cases v <;> simp only [ofV1] <;> first | rfl | (split <;> rfl)
    simp only [ofV, this] at h
    rw [← h]
    rfl

end

section
variable {X : Ctx} {w : World} {ob : List Ob} {m : Mp} {cn : Nat → Cnt}

/-- an object's last elements are forgotten -/
theorem Inv.pfx (hi : Inv X w ob m cn) {id k n : Nat} {xs : List V} (hid : ob[id]? = some (some (k, xs))) (hn : n ≤ xs.length) :
    ∃ cn', Inv X w (ob.set id (some (k, xs.take n))) m cn' ∧ Ext X w m cn w m cn' := by
  have hlt := (List.getElem?_eq_some_iff.1 hid).1
  rcases hi.obj id _ hid with ⟨rfl, h2, h3⟩ | ⟨b, cur, e, c, h1, h2, h3, h4, h5, h6⟩
  · refine ⟨cn, ?_, .refl⟩
    simp only [List.take_nil]
    have : ob.set id (some (k, [])) = ob := by
      apply List.ext_getElem?
      intro i
      by_cases hh : i = id
      · subst hh; rw [List.getElem?_set_self hlt, hid]
      · rw [List.getElem?_set_ne (Ne.symm hh)]
    rw [this]
    exact hi
  · rw [flat_take n] at h5
    obtain ⟨c1, c2, g1, _, g3⟩ := R.split h5
    obtain ⟨us, a1, a2, a3, a4⟩ := R.reads g1
    have hw := hi.write (cs' := cur) (xs' := xs.take n) hid h1 h2 rfl (uni_take h3 n) (Nat.le_trans (Nat.mul_le_mul_right k (by rw [List.length_take]; omega)) h4) h6 (c' := c1) (fun x => by have := g3 x; omega) (us := us)
      (fun j u hu => by
        have := a3 j u hu
        simpa [World.cell?, h2] using this) a2 a4
    rw [setRow_self w b cur e (0, 0) h2] at hw
    exact ⟨_, hw⟩

end

section
variable {P : Program} {X : Ctx} {st : St} {o : Oper} {T : Nat → Option TI}

theorem run_append_roomE {w : World} (t ty e e2 : TypeId) (i : TypeInfo) (ht : P.underlying t = some (.slice e)) (hi : P.info? e = some i)
    (g sLen sCap : Nat) (cur : Array Value) (hg : w.heap[g]? = some (.cells cur e2 (0, 0)))
    (a : Addr) (m c : Nat) (news : List Value) (hl : news.length = m * i.size) (hnews : ∀ (j : Nat) (u : Value), news[j]? = some u → w.cell? (a.add j) = some u) (h1 : ∀ u ∈ news, u.oneCell' = true)
    (hroom : sLen + m ≤ sCap) (hfit : sLen * i.size + news.length ≤ cur.size) :
    (Builtin.append_ #[t, t] ty #[.slice (some ⟨g, 0, none⟩) sLen sCap, .slice (some a) m c]).run P w =
      .ok (.slice (some ⟨g, 0, none⟩) (sLen + m) sCap) (w.setRow g (cur.toList.take (sLen * i.size) ++ news ++ cur.toList.drop (sLen * i.size + news.length)).toArray) := by
  have hf := run_firstCells_some (P := P) w i.size m a m c news hl hnews
  have hst := run_storeCells_at P g (sLen * i.size) e2 news 0 cur w hg (by simpa using hfit) h1
  simp only [Nat.add_zero] at hst
  simp [Builtin.append_, run_underlying ht, sizeOf, typeInfo, hi, Builtin.lenOf, hroom, hf, Addr.add_lit, hst]

theorem map_set_jk (p : Nat → Bool) (ob : List Ob) (id k : Nat) (xs : List V) : (ob.set id (some (k, xs))).map (jkO p) = (ob.map (jkO p)).set id (some (k, jkL p xs)) := by
  rw [List.map_set]; rfl

theorem ok_appendA (hT : TOK P T) {t e : Nat} {s x : Operand} {ti ei : TI} (ho : o.op = .call { callee := .builtin .append, args := #[s, x], argTypes := #[t, t] }) (ht : T t = some ti) (hk : ti.kd = .slice e) (he : T e = some ei)
    (hz0 : ei.zero.cells.length = ei.size) {id n : Nat} (hs0 : ∀ w m cn a, Inv X w st.ob m cn → Sl X w m cn st.tm a → R w (frz X cn) m (.one (.arr id 0 n) (a.eval s)) z0) (hid0 : X.n0 ≤ id) {xs : List V} (hid : st.ob[id]? = some (some (ei.size, xs))) (hn : n ≤ xs.length) {ys : List V} (hy : srcA st.ob (val st x) = some (ei.size, ys))
    (hbig : (n + ys.length) * ei.bytes ≤ 140737488355328) (h63 : n + ys.length ≤ 1099511627776) :
    OKo P X st o (.arr id 0 (n + ys.length)) ⟨jkL (· == id) st.tm, (st.ob.map (jkO (· == id))).set id (some (ei.size, jkL (· == id) (xs.take n ++ ys)))⟩ := by
  intro w m cn a hi hs
  obtain ⟨it, d, z, hit, hut, _, hd, _⟩ := TI.of hT ht
  obtain ⟨ie, d2, z2, hie, _, hz2, _, hsz, hbytes, hzero, _⟩ := TI.of hT he
  rw [hk] at hd
  have := kd_slice hd
  subst this
  have hRs := hs0 w m cn a hi hs
  have hRx := val_ok hs x
  have hlt := (List.getElem?_eq_some_iff.1 hid).1
  have hzs : z2.cells.size = ie.size := ofV_cells z2 (by rw [← hzero, ← hsz]; exact hz0)
  -- nothing is appended: the value stays
  have idle : ∀ u, a.eval s = u → ys = [] → (Builtin.append_ #[t, t] o.type #[u, a.eval x]).run P w = .ok u w → ∃ nx u w' m' cn', (execOp a.eval o).run P w = .ok nx w' ∧ (nx = .value u ∨ nx = .skip ∧ u = undef) ∧
      Inv X w' ((st.ob.map (jkO (· == id))).set id (some (ei.size, jkL (· == id) (xs.take n ++ ys)))) m' cn' ∧ Sl X w' m' cn' (jkL (· == id) st.tm) a ∧ R w' (frz X cn') m' (.one (.arr id 0 (n + ys.length)) u) z0 := by
    intro u hu hys hrun
    subst hys
    obtain ⟨cn', h1, h2⟩ := hi.pfx hid hn
    have h3 := h1.jk (· == id)
    rw [map_set_jk] at h3
    refine ⟨.value u, u, w, m, cn', run_append_op ho hu rfl hrun, .inl rfl, by simpa using h3, R.jk (fun _ _ => rfl) (h2.Sl hs), ?_⟩
    rw [← hu]
    exact h2.R hRs
  rcases srcA_ok hi hRx hy with ⟨⟨adx, hux⟩, rfl⟩ | ⟨bx, ox, cx, news, hux, hnl, hnr, hnR, hn1, hyu⟩
  · rcases R.inv_arr hRs with ⟨rfl, ad, hu⟩ | ⟨b, k, o', cap, cur, e', hu, hcap, _⟩
    · exact idle _ hu rfl (by rw [hux]; exact run_append_empty hT ht hk he o.type ad adx 0 0 (Nat.le_refl _) w)
    · exact idle _ hu rfl (by rw [hux]; exact run_append_empty hT ht hk he o.type _ adx n cap hcap w)
  · by_cases hy0 : ys = []
    · subst hy0
      rcases R.inv_arr hRs with ⟨rfl, ad, hu⟩ | ⟨b, k, o', cap, cur, e', hu, hcap, _⟩
      · exact idle _ hu rfl (by rw [hux]; exact run_append_zero hT ht hk he o.type ad 0 0 cx _ (Nat.le_refl _) w)
      · exact idle _ hu rfl (by rw [hux]; exact run_append_zero hT ht hk he o.type _ n cap cx _ hcap w)
    · have hpos : 0 < ys.length := List.length_pos_iff.2 hy0
      have hnl' : news.length = ys.length * ie.size := by rw [hnl, hsz]
      have hadd : ∀ (j : Nat) (v : Value), news[j]? = some v → w.cell? ((⟨bx, ox, none⟩ : Addr).add j) = some v := fun j v hj => by rw [add_none]; exact hnr j v hj
      -- a new block
      have grown : ∀ (u : Value) (olds : List Value) (c1 : Cnt) (old : Nat), a.eval s = u → R w (frz X cn) m (.list (flat (xs.take n)) olds) c1 → (∀ v ∈ olds, v.oneCell' = true) → (∀ z, c1 z ≤ cn id z) →
          (Builtin.append_ #[t, t] o.type #[u, a.eval x]).run P w = .ok (.slice (some ⟨w.heap.size, 0, none⟩) (n + ys.length) (grownCap w (n + ys.length) old e))
            (w.drew.alloc (.cells (olds.toArray ++ news.toArray ++ Builtin.zeroCells z2.cells (grownCap w (n + ys.length) old e - (n + ys.length))) e)) → uni ei.size (xs.take n) →
          ∃ nx u w' m' cn', (execOp a.eval o).run P w = .ok nx w' ∧ (nx = .value u ∨ nx = .skip ∧ u = undef) ∧
            Inv X w' ((st.ob.map (jkO (· == id))).set id (some (ei.size, jkL (· == id) (xs.take n ++ ys)))) m' cn' ∧ Sl X w' m' cn' (jkL (· == id) st.tm) a ∧ R w' (frz X cn') m' (.one (.arr id 0 (n + ys.length)) u) z0 := by
        intro u olds c1 old hu hold ho1 hc1 hrun huni
        have hge := grownCap_ge w (n + ys.length) old e
        have hxl : (xs.take n).length = n := by rw [List.length_take]; omega
        have hol : olds.length = n * ei.size := by rw [hold.len, flat_length huni, hxl]
        have hcells : (olds.toArray ++ news.toArray ++ Builtin.zeroCells z2.cells (grownCap w (n + ys.length) old e - (n + ys.length))).size = grownCap w (n + ys.length) old e * ei.size := by
          rw [Array.size_append, Array.size_append, size_zeroCells, hzs, ← hsz]
          simp only [List.size_toArray, hol, hnl]
          rw [← Nat.add_mul, ← Nat.add_mul]
          congr 1
          omega
        have hjoin := (hold.ljoin hnR).cast (d := c1) fun z => by simp [z0]
        rw [← flat_append] at hjoin
        have hrg := (hi.drew).regrow (cells := olds.toArray ++ news.toArray ++ Builtin.zeroCells z2.cells (grownCap w (n + ys.length) old e - (n + ys.length))) (e := e) (k := ei.size) (xs' := xs.take n ++ ys) hid hid0
          (fun v hv => by rcases List.mem_append.1 hv with h | h; exact huni v h; exact hyu v h) (by rw [hcells, List.length_append, hxl]; exact Nat.mul_le_mul_right _ hge) (us := olds ++ news) (c' := c1)
          (fun j v hj => by
            have hjl := (List.getElem?_eq_some_iff.1 hj).1
            rw [Array.getElem?_append_left (by simpa using hjl)]
            simpa using hj) (hjoin.mono (Nat.le_refl _) (fun _ _ h => ⟨h, rfl⟩) (fun _ _ => rfl) trivial (fun _ _ h => ⟨h, rfl⟩))
          (fun v hv => by rcases List.mem_append.1 hv with h | h; exact ho1 v h; exact hn1 v h) hc1
        refine ⟨_, _, _, _, _, run_append_op ho hu rfl hrun, .inl rfl, hrg.1, ?_, ?_⟩
        · have := hrg.2 (.list st.tm a.tmps.toList) trivial (Ext.drew.Sl hs)
          exact this
        · have hsh : (w.drew.alloc (.cells (olds.toArray ++ news.toArray ++ Builtin.zeroCells z2.cells (grownCap w (n + ys.length) old e - (n + ys.length))) e)).shape? w.heap.size =
              some (e, grownCap w (n + ys.length) old e * ei.size) := by
            have := heap_alloc_new w.drew (.cells (olds.toArray ++ news.toArray ++ Builtin.zeroCells z2.cells (grownCap w (n + ys.length) old e - (n + ys.length))) e)
            simp only [World.shape?, show w.drew.heap.size = w.heap.size from rfl] at this ⊢
            rw [this]
            show some (e, _) = _
            rw [hcells]
          have := R.arr (w := w.drew.alloc (.cells (olds.toArray ++ news.toArray ++ Builtin.zeroCells z2.cells (grownCap w (n + ys.length) old e - (n + ys.length))) e)) (fr := frz X (upd cn id (fun x => c1 x + if x = w.drew.heap.size then 1 else 0)))
            (upd_same m id (some (w.drew.heap.size, ei.size))) (o := 0) hsh hge (by rw [Nat.zero_add]; exact Nat.le_refl _)
          rw [Nat.zero_mul] at this
          exact this
      rcases R.inv_arr hRs with ⟨rfl, ad, hu⟩ | ⟨b, k, o', cap, cur, e', hu, hcap, hm, hsh, hor⟩
      · refine grown (.slice ad 0 0) [] z0 0 hu (by simpa using .lnil) (fun v h => by simp at h) (fun z => Nat.zero_le _) ?_ (fun v h => by simp at h)
        cases ad with
        | some ad =>
          have := run_append_grow (P := P) w t o.type e ie z2 hut hie hz2 ad 0 0 [] (by simp) (fun j v hj => by simp at hj) ⟨bx, ox, none⟩ ys.length cx news hnl' hadd (by omega) (by omega)
            (growslice_fits (by omega) (by rw [← hbytes]; exact hbig))
          rw [hux]
          exact this
        | none =>
        have := run_append_nil (P := P) w t o.type e ie z2 hut hie hz2 ⟨bx, ox, none⟩ ys.length cx news hnl' hadd hpos (by omega) (by rw [← hbytes]; simp at hbig; omega)
        rw [hux, Nat.zero_add]
        simpa using this
      · obtain ⟨rfl, cells, e2, c, g1, g2, g3, g4, g5⟩ := hi.object hid hm
        have hee : e2 = e' ∧ cells.size = cur := by
          simp only [World.shape?, g1, Option.some.injEq, Prod.mk.injEq] at hsh
          exact hsh
        rcases hor with ⟨_, h⟩ | ⟨rfl, hc⟩
        · exact absurd rfl h
        · rw [flat_take n] at g4
          obtain ⟨c1, c2, q1, _, q3⟩ := R.split g4
          obtain ⟨olds, a1, a2, a3, a4⟩ := R.reads q1
          have hxl : (xs.take n).length = n := by rw [List.length_take]; omega
          have hol : olds.length = n * ie.size := by rw [a1, flat_length (uni_take g2 n), hxl, hsz]
          rw [Nat.zero_mul] at hu
          by_cases hroom : n + ys.length ≤ cap
          · have hk0 := hee.2
            have hin : (n + ys.length) * ie.size ≤ cells.size := by
              rw [hk0, ← hsz]
              exact Nat.le_trans (Nat.mul_le_mul_right _ (by omega)) hc
            have hnn : n * ie.size + news.length ≤ cells.size := by rw [hnl', ← Nat.add_mul]; exact hin
            have hrun := run_append_roomE (P := P) t o.type e e2 ie hut hie b n cap cells g1 ⟨bx, ox, none⟩ ys.length cx news hnl' hadd hn1 hroom hnn
            have hjoin := (a2.ljoin hnR).cast (d := c1) fun z => by simp [z0]
            rw [← flat_append] at hjoin
            have hw := hi.write (cs' := (cells.toList.take (n * ie.size) ++ news ++ cells.toList.drop (n * ie.size + news.length)).toArray) (xs' := xs.take n ++ ys) hid hm g1 (by simp; omega)
              (fun v hv => by rcases List.mem_append.1 hv with h | h; exact uni_take g2 n v h; exact hyu v h)
              (by simp only [List.size_toArray, List.length_append, List.length_take, List.length_drop, hxl, Array.length_toList]; rw [hsz]; rw [Nat.min_eq_left (by omega : n * ie.size ≤ cells.size)]; omega)
              g5 (c' := c1) (fun z => by rw [q3]; omega) (us := olds ++ news)
              (fun q u hq => by
                rw [List.getElem?_toArray, List.append_assoc]
                rcases Nat.lt_or_ge q (n * ie.size) with h | h
                · rw [List.getElem?_append_left (by omega)] at hq
                  have := a3 q u hq
                  rw [List.getElem?_append_left (by rw [List.length_take]; simp; omega), List.getElem?_take_of_lt h]
                  simpa [World.cell?, g1] using this
                · rw [List.getElem?_append_right (by omega), hol] at hq
                  have hlt := (List.getElem?_eq_some_iff.1 hq).1
                  rw [List.getElem?_append_right (by rw [List.length_take]; omega), List.length_take, Nat.min_eq_left (by simp; omega), List.getElem?_append_left hlt]
                  exact hq) hjoin (fun v hv => by rcases List.mem_append.1 hv with h | h; exact a4 v h; exact hn1 v h)
            have hw2 := hw.1.jk (· == id)
            rw [map_set_jk] at hw2
            refine ⟨_, _, _, _, _, run_append_op ho hu rfl (by rw [hux]; exact hrun), .inl rfl, hw2, R.jk (fun _ _ => rfl) (hw.2.Sl hs), ?_⟩
            have hsh2 : (w.setRow b (cells.toList.take (n * ie.size) ++ news ++ cells.toList.drop (n * ie.size + news.length)).toArray).shape? b = some (e2, cur) := by
              rw [setRow_shape g1 (by simp; omega), hsh, hee.1]
            have := R.arr (w := w.setRow b (cells.toList.take (n * ie.size) ++ news ++ cells.toList.drop (n * ie.size + news.length)).toArray) (fr := frz X (upd cn id (fun x => c1 x + if x = b then 1 else 0)))
              hm (o := 0) (n := n + ys.length) (cap := cap) hsh2 hroom hc
            rw [Nat.zero_mul] at this
            exact this
          · have := run_append_grow (P := P) w t o.type e ie z2 hut hie hz2 ⟨b, 0, none⟩ n cap olds hol (fun j v hj => by rw [add_none]; exact a3 j v hj) ⟨bx, ox, none⟩ ys.length cx news hnl' hadd (by omega) (by omega)
              (growslice_fits (by omega) (by rw [← hbytes]; exact hbig))
            exact grown _ olds c1 cap hu a2 a4 (fun z => by rw [g5, q3]; omega) (by rw [hux]; exact this) (uni_take g2 n)

end
end Go.Ev
namespace Go.Ev
open Go

section
variable {P : Program} {X : Ctx} {st : St} {o : Oper} {T : Nat → Option TI}

theorem ok_appendA' (hT : TOK P T) {t e : Nat} {s x : Operand} {ti ei : TI} (ho : o.op = .call { callee := .builtin .append, args := #[s, x], argTypes := #[t, t] }) (ht : T t = some ti) (hk : ti.kd = .slice e) (he : T e = some ei)
    (hz0 : ei.zero.cells.length = ei.size) {id n : Nat} (hs0 : val st s = .arr id 0 n) (hid0 : X.n0 ≤ id) {xs : List V} (hid : st.ob[id]? = some (some (ei.size, xs))) (hn : n ≤ xs.length) {ys : List V} (hy : srcA st.ob (val st x) = some (ei.size, ys))
    (hbig : (n + ys.length) * ei.bytes ≤ 140737488355328) (h63 : n + ys.length ≤ 1099511627776) :
    OKo P X st o (.arr id 0 (n + ys.length)) ⟨jkL (· == id) st.tm, (st.ob.map (jkO (· == id))).set id (some (ei.size, jkL (· == id) (xs.take n ++ ys)))⟩ :=
  ok_appendA hT ho ht hk he hz0 (fun w m cn a _ hs => by have := val_ok hs s; rw [hs0] at this; exact this) hid0 hid hn hy hbig h63

theorem nil_source {ob : List Ob} {k : Nat} {y : V} {r : Nat × List V} (h : srcA ob y = some r) : srcA (ob ++ [some (k, [])]) y = some r := by
  cases y with
  | arr id off n =>
    simp only [srcA] at h ⊢
    cases hid : ob[id]? with
    | none => rw [hid] at h; cases h
    | some o' =>
      rw [List.getElem?_append_left (List.getElem?_eq_some_iff.1 hid).1, hid]
      rw [hid] at h
      exact h
  | _ => exact h

/-- append to a nil slice -/
theorem ok_appendN (hT : TOK P T) {t e : Nat} {s x : Operand} {ti ei : TI} (ho : o.op = .call { callee := .builtin .append, args := #[s, x], argTypes := #[t, t] }) (ht : T t = some ti) (hk : ti.kd = .slice e) (he : T e = some ei)
    (hz0 : ei.zero.cells.length = ei.size) (hs0 : val st s = .raw (.slice none 0 0)) {ys : List V} (hy : srcA st.ob (val st x) = some (ei.size, ys))
    (hbig : ys.length * ei.bytes ≤ 140737488355328) (h63 : ys.length ≤ 1099511627776) :
    OKo P X st o (.arr st.ob.length 0 ys.length) ⟨jkL (· == st.ob.length) st.tm, (st.ob ++ [some (ei.size, [])]).map (jkO (· == st.ob.length)) |>.set st.ob.length (some (ei.size, jkL (· == st.ob.length) ys))⟩ := by
  intro w m cn a hi hs
  obtain ⟨h1, h2⟩ := hi.nameNil ei.size
  have hv : ∀ y, val (⟨st.tm, st.ob ++ [some (ei.size, [])]⟩ : St) y = val st y := fun y => by cases y <;> rfl
  have := ok_appendA (P := P) (X := X) (st := ⟨st.tm, st.ob ++ [some (ei.size, [])]⟩) hT ho ht hk he hz0 (id := st.ob.length) (n := 0) (xs := [])
    (fun w m cn a hi hs => by
      have := val_ok hs s
      rw [hv, hs0] at this
      rw [R.inv_raw this]
      exact .arrn) hi.n0 (by simp) (Nat.le_refl _) (ys := ys) (by rw [hv]; exact nil_source hy) (by simpa using hbig) (by simpa using h63)
  simp only [Nat.zero_add, List.take_nil, List.nil_append] at this
  exact this w m _ a h1 (h2.Sl hs)

/-- what a literal of a slice holds -/
def lits (st : St) : Nat → List (Nat × Operand) → Option (List V)
  | _, [] => some []
  | i, (j, x) :: ps => if i = j then (match lits st (i + 1) ps with | some xs => some (val st x :: xs) | none => none) else none

theorem seg_list (off : Nat) : ∀ (vs : List Value) (k : Nat) (cells : Array Value), off + k + vs.length ≤ cells.size →
    ((vs.zipIdx k).foldl (fun (cs : Array Value) (p : Value × Nat) => cs.setIfInBounds (off + p.2) p.1) cells).toList = cells.toList.take (off + k) ++ vs ++ cells.toList.drop (off + k + vs.length) := by
  intro vs
  induction vs with
  | nil => intro k cells h; simp
  | cons v vs ih =>
    intro k cells h
    simp only [List.length_cons] at h
    rw [List.zipIdx_cons, List.foldl_cons, ih (k + 1) _ (by simp; omega)]
    simp only [Array.toList_setIfInBounds]
    rw [show off + (k + 1) = off + k + 1 from by omega, show off + k + (v :: vs).length = off + k + 1 + vs.length from by simp; omega]
    have hlt : off + k < cells.toList.length := by simp; omega
    rw [List.take_succ_eq_append_getElem (by simpa using hlt), List.getElem_set_self, List.take_set, List.set_eq_of_length_le (by rw [List.length_take]; omega), List.drop_set, if_pos (by omega)]
    simp

theorem fill_seq (size : Nat) : ∀ (parts : List (Nat × Value)) (i : Nat) (pre : List Value) (cells : Array Value), (∀ (q : Nat) (p : Nat × Value), parts[q]? = some p → p.1 = i + q ∧ p.2.cells.size = size) →
    cells.toList.take (i * size) = pre → (i + parts.length) * size = cells.size →
    Instr.fill (fun i => some (i * size, size)) cells parts = some (pre ++ (parts.flatMap fun p => p.2.cells.toList)).toArray := by
  intro parts
  induction parts with
  | nil =>
    intro i pre cells _ ht hc
    simp only [Instr.fill, List.flatMap_nil, List.append_nil]
    rw [← ht, List.take_of_length_le (by simp at hc; simp; omega)]
  | cons p parts ih =>
    intro i pre cells h ht hc
    obtain ⟨j, v⟩ := p
    have h0 := h 0 _ rfl
    simp only [Nat.add_zero] at h0
    obtain ⟨rfl, hv⟩ := h0
    have hc' : j * size + size + parts.length * size = cells.size := by
      simp only [List.length_cons] at hc
      rw [← hc, Nat.add_mul, Nat.add_mul]; omega
    have hfit : (decide (v.cells.size ≠ size) || decide (j * size + v.cells.size > cells.size)) = false := by simp; omega
    have hseg := seg_list (j * size) v.cells.toList 0 cells (by simp; omega)
    simp only [Nat.add_zero] at hseg
    have hz : (v.cells.zipIdx.foldl (fun (cs : Array Value) (x : Value × Nat) => cs.setIfInBounds (j * size + x.2) x.1) cells) = ((v.cells.toList.zipIdx 0).foldl (fun (cs : Array Value) (p : Value × Nat) => cs.setIfInBounds (j * size + p.2) p.1) cells) := by
      rw [← Array.foldl_toList, Array.toList_zipIdx]
    simp only [Instr.fill]
    rw [if_neg (by simpa using hfit)]
    rw [show (fun (cs : Array Value) (x : Value × Nat) => match x with | (c, j_1) => cs.setIfInBounds (j * size + j_1) c) = (fun cs x => cs.setIfInBounds (j * size + x.2) x.1) from rfl, hz]
    generalize (v.cells.toList.zipIdx 0).foldl (fun (cs : Array Value) (p : Value × Nat) => cs.setIfInBounds (j * size + p.2) p.1) cells = cells2 at hseg
    have hvl : v.cells.toList.length = size := by simpa using hv
    have hlen : cells2.size = cells.size := by
      rw [← Array.length_toList, hseg]; simp; omega
    rw [ih (j + 1) (pre ++ v.cells.toList) cells2 (fun q p hp => by have := h (q + 1) p (by simpa using hp); exact ⟨by omega, this.2⟩) (by
      rw [hseg, Nat.add_mul, Nat.one_mul, List.append_assoc, ht, List.take_append, List.take_of_length_le (by rw [← ht, List.length_take]; omega)]
      congr 1
      rw [← ht, List.length_take, Nat.min_eq_left (by simp; omega), show j * size + size - j * size = size from by omega, List.take_append, List.take_of_length_le (by omega), hvl]
      simp) (by rw [hlen, Nat.add_mul, Nat.add_mul]; omega)]
    simp

theorem lits_R {w : World} {m : Mp} {cn : Nat → Cnt} {a : Act} (hs : Sl X w m cn st.tm a) : ∀ (ps : List (Nat × Operand)) (i : Nat) (xs : List V), lits st i ps = some xs → okCells (flat xs) = true →
    R w (frz X cn) m (.list (flat xs) ((ps.map fun p => (p.1, a.eval p.2)).flatMap fun p => p.2.cells.toList)) z0 ∧ (∀ v ∈ (ps.map fun p => (p.1, a.eval p.2)).flatMap (fun p => p.2.cells.toList), v.oneCell' = true) ∧
      xs.length = ps.length ∧ ∀ k, uni k xs → ∀ (q : Nat) (p : Nat × Value), (ps.map fun p => (p.1, a.eval p.2))[q]? = some p → p.1 = i + q ∧ p.2.cells.size = k := by
  intro ps
  induction ps with
  | nil => intro i xs h _; simp only [lits] at h; cases h; exact ⟨.lnil, fun v h => by simp at h, rfl, fun k _ q p h => by simp at h⟩
  | cons p ps ih =>
    intro i xs h hok
    obtain ⟨j, x⟩ := p
    simp only [lits] at h
    split at h
    · rename_i hij
      subst hij
      split at h
      · rename_i ys hy
        cases h
        simp only [flat_cons, okCells, List.all_append, Bool.and_eq_true] at hok
        obtain ⟨h1, h2, h3, h4⟩ := ih (i + 1) ys hy hok.2
        obtain ⟨h5, h6⟩ := (val_ok hs x).toCells hok.1
        refine ⟨?_, ?_, by simp [h3], ?_⟩
        · simp only [List.map_cons, List.flatMap_cons, flat_cons]
          exact (h5.ljoin h1).zero fun z => by simp [z0]
        · simp only [List.map_cons, List.flatMap_cons]
          intro v hv
          rcases List.mem_append.1 hv with h | h
          · exact h6 v h
          · exact h2 v h
        · intro k hk q p hp
          cases q with
          | zero =>
            simp at hp
            subst hp
            have := hk _ (List.mem_cons_self)
            have hl := h5.len
            simp at hl ⊢
            omega
          | succ q =>
            have := h4 k (fun y hy => hk y (by simp [hy])) q p (by simpa using hp)
            exact ⟨by omega, this.2⟩
      · cases h
    · cases h

theorem ok_buildSlice (hT : TOK P T) {t e len : Nat} {parts : Array (Nat × Operand)} {ti ei : TI} (ho : o.op = .buildSlice t len parts) (ht : T t = some ti) (hk : ti.kd = .slice e) (he : T e = some ei)
    {xs : List V} (hx : lits st 0 parts.toList = some xs) (hlen : xs.length = len) (hok : okCells (flat xs) = true) (huni : (xs.all fun x => x.cells.length == ei.size) = true) (hsmall : len * ei.size ≤ 16777216) (hz0 : ei.zero.cells.length = ei.size) :
    OKo P X st o (.arr st.ob.length 0 len) ⟨st.tm, st.ob ++ [some (ei.size, xs)]⟩ := by
  intro w m cn a hi hs
  obtain ⟨it, d, z, hit, hut, _, hd, _⟩ := TI.of hT ht
  obtain ⟨ie, d2, z2, hie, _, hz2, _, hsz, hbytes, hzero, _⟩ := TI.of hT he
  rw [hk] at hd
  have := kd_slice hd
  subst this
  have huni' : uni ei.size xs := fun x hx => by have := List.all_eq_true.1 huni x hx; simpa using this
  have hzs : z2.cells.size = ie.size := ofV_cells z2 (by rw [← hzero, ← hsz]; exact hz0)
  obtain ⟨h1, h2, h3, h4⟩ := lits_R hs _ _ _ hx hok
  have hps := h4 ei.size huni'
  generalize hvs : (parts.toList.map fun p => (p.1, a.eval p.2)) = vs at *
  have hvl : vs.length = len := by rw [← hvs, List.length_map, ← h3, hlen]
  have hfl := flat_length huni'
  rw [hlen] at hfl
  have hnl := h1.len
  have e0 : (List.toArray (vs.flatMap fun p => p.2.cells.toList)).toList = vs.flatMap (fun p => p.2.cells.toList) := rfl
  have hfill : ∀ cells : Array Value, cells.size = len * ie.size → Instr.fill (fun i => some (i * ie.size, ie.size)) cells vs = some (vs.flatMap fun p => p.2.cells.toList).toArray := by
    intro cells hc
    have := fill_seq ie.size vs 0 [] cells (fun q p hp => by have := hps q p hp; exact ⟨this.1, by rw [this.2, hsz]⟩) (by simp) (by rw [Nat.zero_add, hvl, hc])
    simpa using this
  have hrun : (Instr.buildSlice t len (parts.map fun (i, x) => (i, a.eval x))).run P w = .ok (.slice (some ⟨w.heap.size, 0, none⟩) len len) (w.alloc (.cells (vs.flatMap fun p => p.2.cells.toList).toArray e)) := by
    have hn : ¬ len * ie.size > 2 ^ 24 := by rw [← hsz]; omega
    have hpl : (parts.map fun (p : Nat × Operand) => (p.1, a.eval p.2)).toList = vs := by rw [Array.toList_map, hvs]
    by_cases h0 : len * ie.size = 0
    · simp only [Instr.buildSlice, Sem.run_bind, run_underlying hut, Result.andThen_ok, run_sizeOf hie, Sem.run_ite, h0, if_true, Sem.run_pure, hpl]
      rw [hfill _ (by simp [h0])]
      simp [newRow]
    · simp only [Instr.buildSlice, Sem.run_bind, run_underlying hut, Result.andThen_ok, run_sizeOf hie, Sem.run_ite, if_neg hn, if_neg h0, zeroValue, typeInfo, run_program, hie, hz2, Sem.run_pure, hpl]
      rw [hfill _ (by simp)]
      simp [newRow]
  have hgrow := hi.grow (cells := (vs.flatMap fun p => p.2.cells.toList).toArray) (e := e) (k := ei.size) (xs := xs) huni' (by simp only [List.size_toArray, hlen]; omega)
    (fun us hus => by
      rw [e0, List.take_of_length_le (by omega)] at hus
      subst hus
      exact ⟨h1, h2⟩)
  have hext := Ext.grow hi (.cells (vs.flatMap fun p => p.2.cells.toList).toArray e) ei.size
  refine ⟨.value (.slice (some ⟨w.heap.size, 0, none⟩) len len), _, _, _, _, ?_, .inl rfl, hgrow, hext.Sl hs, ?_⟩
  · simp only [execOp, ho, hrun, Sem.run_bind, Result.andThen_ok, Sem.run_pure]
  · have hsh : (w.alloc (.cells (vs.flatMap fun p => p.2.cells.toList).toArray e)).shape? w.heap.size = some (e, len * ei.size) := by
      simp only [World.shape?, heap_alloc_new w, Option.some.injEq, Prod.mk.injEq, true_and, List.size_toArray]
      omega
    have := R.arr (w := w.alloc (.cells (vs.flatMap fun p => p.2.cells.toList).toArray e)) (fr := frz X (upd cn st.ob.length (fun x => if x = w.heap.size then 1 else 0))) (upd_same m st.ob.length (some (w.heap.size, ei.size)))
      (o := 0) (n := len) (cap := len) hsh (Nat.le_refl _) (by rw [Nat.zero_add]; exact Nat.le_refl _)
    rw [Nat.zero_mul] at this
    exact this

theorem flatten_rep {α : Type} (l : List α) (hl : 0 < l.length) : ∀ (n j : Nat), j < n * l.length → (List.replicate n l).flatten[j]? = l[j % l.length]? := by
  intro n
  induction n with
  | zero => intro j h; simp at h
  | succ n ih =>
    intro j h
    rw [List.replicate_succ, List.flatten_cons]
    rcases Nat.lt_or_ge j l.length with h' | h'
    · rw [List.getElem?_append_left h', Nat.mod_eq_of_lt h']
    · rw [List.getElem?_append_right h', ih (j - l.length) (by rw [Nat.add_mul] at h; omega), ← Nat.mod_eq_sub_mod h']

theorem madeCells_take {z : Array Value} {k n c : Nat} (hz : z.size = k) (hk : 0 < k) (hn : n ≤ c) : (madeCells z (c * k)).toList.take (n * k) = (List.replicate n z.toList).flatten := by
  subst hz
  have hnc : n * z.size ≤ c * z.size := Nat.mul_le_mul_right _ hn
  apply List.ext_getElem?
  intro j
  rcases Nat.lt_or_ge j (n * z.size) with h | h
  · rw [List.getElem?_take_of_lt h, flatten_rep _ (by simpa using hk) n j (by simpa using h)]
    have hm : j % z.size < z.size := Nat.mod_lt _ hk
    have hj : j < c * z.size := by omega
    rw [Array.length_toList, Array.getElem?_toList, Array.getElem?_toList, madeCells]
    simp [hj, hm]
  · rw [List.getElem?_eq_none (by rw [List.length_take]; omega), List.getElem?_eq_none (by simp [List.length_flatten]; exact h)]

theorem ok_makeSlice (hT : TOK P T) {t e : Nat} {x y : Operand} {ti ei : TI} (ho : o.op = .makeSlice t x y) (ht : T t = some ti) (hk : ti.kd = .slice e) (he : T e = some ei)
    {k1 k2 : IntKind} {n c : Int} (hx : val st x = .int k1 n) (hy : val st y = .int k2 c) (h0 : 0 ≤ n) (hc : n ≤ c) (hbig : (ei.bytes : Int) * c ≤ 281474976710656) (h63 : c ≤ 9223372036854775807)
    (hok : okCells ei.zero.cells = true) (hz0 : ei.zero.cells.length = ei.size) (hpos : 0 < ei.size) :
    OKo P X st o (.arr st.ob.length 0 n.toNat) ⟨st.tm, st.ob ++ [some (ei.size, List.replicate n.toNat ei.zero)]⟩ := by
  intro w m cn a hi hs
  obtain ⟨it, d, z, hit, hut, _, hd, _⟩ := TI.of hT ht
  obtain ⟨ie, d2, z2, hie, _, hz2, _, hsz, hbytes, hzero, _⟩ := TI.of hT he
  rw [hk] at hd
  have := kd_slice hd
  subst this
  have hzs : z2.cells.size = ie.size := ofV_cells z2 (by rw [← hzero, ← hsz]; exact hz0)
  have h1 := val_ok hs x
  have h2 := val_ok hs y
  rw [hx] at h1
  rw [hy] at h2
  have hrun := run_make (P := P) w t e ie z2 hut hie hz2 k1 k2 n c h0 hc (by rw [← hbytes]; exact hbig) h63
  have huni : uni ei.size (List.replicate n.toNat ei.zero) := fun v hv => by rw [(List.mem_replicate.1 hv).2]; exact hz0
  have hzR : ∀ (w : World) (fr : Nat → Prop) (m : Mp), R w fr m (.list ei.zero.cells z2.cells.toList) z0 := fun w fr m => (hzero ▸ ofV_R z2 : R w fr m (.one ei.zero z2) z0).toCells hok |>.1
  have htake := madeCells_take (z := z2.cells) (k := ei.size) (by rw [hzs, hsz]) hpos (n := n.toNat) (c := c.toNat) (by omega)
  have hRep : ∀ q, R w (frz X cn) m (.list (flat (List.replicate q ei.zero)) (List.replicate q z2.cells.toList).flatten) z0 := by
    intro q
    induction q with
    | zero => exact .lnil
    | succ q ih =>
      rw [List.replicate_succ, List.replicate_succ, flat_cons, List.flatten_cons]
      exact ((hzR _ _ _).ljoin ih).zero fun z => by simp [z0]
  have hone : ∀ v ∈ z2.cells.toList, v.oneCell' = true := (hzR w (frz X cn) m).oneCells hok
  have hfl : (flat (List.replicate n.toNat ei.zero)).length = n.toNat * ei.size := by rw [flat_length huni, List.length_replicate]
  have hsize : (madeCells z2.cells (c.toNat * ie.size)).size = c.toNat * ei.size := by rw [size_madeCells, hsz]
  have hgrow := hi.grow (cells := madeCells z2.cells (c.toNat * ie.size)) (e := e) (k := ei.size) (xs := List.replicate n.toNat ei.zero) huni (by rw [List.length_replicate, hsize]; exact Nat.mul_le_mul_right _ (by omega))
    (fun us hus => by
      rw [hfl, ← hsz, htake] at hus
      subst hus
      refine ⟨hRep _, fun v hv => ?_⟩
      obtain ⟨l, h3, h4⟩ := List.mem_flatten.1 hv
      rw [(List.mem_replicate.1 h3).2] at h4
      exact hone v h4)
  have hext := Ext.grow hi (.cells (madeCells z2.cells (c.toNat * ie.size)) e) ei.size
  refine ⟨.value (.slice (some ⟨w.heap.size, 0, none⟩) n.toNat c.toNat), _, _, _, _, ?_, .inl rfl, hgrow, hext.Sl hs, ?_⟩
  · simp only [execOp, ho, R.inv_int h1, R.inv_int h2, hrun, Sem.run_bind, Result.andThen_ok, Sem.run_pure]
  · have hsh : (w.alloc (.cells (madeCells z2.cells (c.toNat * ie.size)) e)).shape? w.heap.size = some (e, c.toNat * ei.size) := by
      simp only [World.shape?, heap_alloc_new w, Option.some.injEq, Prod.mk.injEq, true_and]
      exact hsize
    have := R.arr (w := w.alloc (.cells (madeCells z2.cells (c.toNat * ie.size)) e)) (fr := frz X (upd cn st.ob.length (fun x => if x = w.heap.size then 1 else 0))) (upd_same m st.ob.length (some (w.heap.size, ei.size)))
      (o := 0) (n := n.toNat) (cap := c.toNat) hsh (by omega) (by rw [Nat.zero_add]; exact Nat.le_refl _)
    rw [Nat.zero_mul] at this
    exact this

end
end Go.Ev
namespace Go.Ev
open Go

/-- a struct's cells, out of its parts -/
def bld (T : Nat → Option TI) (st : St) (fs : List (Nat × Nat)) : List V → List (Nat × Operand) → Option (List V)
  | cs, [] => some cs
  | cs, (i, x) :: ps => match fs[i]? with
    | some (off, ft) => match T ft with
      | some fi => if (val st x).cells.length = fi.size ∧ off + fi.size ≤ cs.length ∧ okCells (val st x).cells = true then bld T st fs (cs.take off ++ (val st x).cells ++ cs.drop (off + fi.size)) ps else none
      | none => none
    | none => none

section
variable {P : Program} {X : Ctx} {L : List Nat} {st : St} {o : Oper} {T : Nat → Option TI}

theorem bld_ok (hT : TOK P T) {w : World} {m : Mp} {cn : Nat → Cnt} {a : Act} (hs : Sl X w m cn st.tm a) {gs : Array Field} (places : Array (Nat × Nat))
    (hpl : ∀ (i off ft : Nat) (fi : TI), (gs.toList.map fun f => (f.offset, f.type))[i]? = some (off, ft) → T ft = some fi → places[i]? = some (off, fi.size)) :
    ∀ (ps : List (Nat × Operand)) (cs : List V) (cells : Array Value) (rs : List V), R w (frz X cn) m (.list cs cells.toList) z0 → bld T st (gs.toList.map fun f => (f.offset, f.type)) cs ps = some rs →
      ∃ cells', Instr.fill (places[·]?) cells (ps.map fun p => (p.1, a.eval p.2)) = some cells' ∧ R w (frz X cn) m (.list rs cells'.toList) z0 := by
  intro ps
  induction ps with
  | nil => intro cs cells rs hR h; simp only [bld] at h; cases h; exact ⟨cells, rfl, hR⟩
  | cons p ps ih =>
    intro cs cells rs hR h
    obtain ⟨i, x⟩ := p
    simp only [bld] at h
    split at h
    · rename_i off ft hf
      split at h
      · rename_i fi hfi
        split at h
        · rename_i hc
          obtain ⟨h1, h2, h3⟩ := hc
          obtain ⟨hv1, hv2⟩ := (val_ok hs x).toCells h3
          have hlen := hR.len
          have hvl := hv1.len
          have hpi := hpl i off ft fi hf hfi
          have hseg := seg_list off (a.eval x).cells.toList 0 cells (by simp at hlen hvl ⊢; omega)
          simp only [Nat.add_zero] at hseg
          have hz : ((a.eval x).cells.zipIdx.foldl (fun (cs : Array Value) (y : Value × Nat) => cs.setIfInBounds (off + y.2) y.1) cells) =
              (((a.eval x).cells.toList.zipIdx 0).foldl (fun (cs : Array Value) (p : Value × Nat) => cs.setIfInBounds (off + p.2) p.1) cells) := by
            rw [← Array.foldl_toList, Array.toList_zipIdx]
          simp only [List.map_cons, Instr.fill, hpi]
          rw [if_neg (by simp at hlen hvl ⊢; omega)]
          rw [show (fun (cs : Array Value) (y : Value × Nat) => match y with | (c, j_1) => cs.setIfInBounds (off + j_1) c) = (fun cs y => cs.setIfInBounds (off + y.2) y.1) from rfl, hz]
          generalize ((a.eval x).cells.toList.zipIdx 0).foldl (fun (cs : Array Value) (p : Value × Nat) => cs.setIfInBounds (off + p.2) p.1) cells = cells2 at hseg
          refine ih _ cells2 rs ?_ h
          rw [hseg]
          have hsp := split3 cs off fi.size
          rw [hsp] at hR
          obtain ⟨c1, c2, hA, hBC, hc12⟩ := R.lsplit hR
          obtain ⟨c3, c4, _, hC, hc34⟩ := R.lsplit hBC
          have hAl : (cs.take off).length = off := by rw [List.length_take]; omega
          have hBl : ((cs.drop off).take fi.size).length = fi.size := by rw [List.length_take, List.length_drop]; omega
          rw [hAl] at hA hC
          rw [hBl, List.drop_drop] at hC
          have hvl2 : (a.eval x).cells.toList.length = fi.size := by rw [hvl, h1]
          rw [hvl2]
          exact ((hA.ljoin hv1).ljoin hC).zero fun z => by have := hc12 z; have := hc34 z; simp [z0] at *; omega
        · cases h
      · cases h
    · cases h

theorem places_run (hT : TOK P T) : ∀ (fs : List Field), (fs.all fun f => (T f.type).isSome) = true →
    ∃ ps : List (Nat × Nat), (∀ w, (fs.mapM fun f => (do pure (f.offset, ← sizeOf f.type) : Sem (Nat × Nat))).run P w = .ok ps w) ∧ ∀ (i off ft : Nat) (fi : TI), (fs.map fun f => (f.offset, f.type))[i]? = some (off, ft) → T ft = some fi → ps[i]? = some (off, fi.size) := by
  intro fs
  induction fs with
  | nil => intro _; exact ⟨[], fun w => by simp, fun i off ft fi h => by simp at h⟩
  | cons f fs ih =>
    intro h
    simp only [List.all_cons, Bool.and_eq_true] at h
    obtain ⟨ps, h1, h2⟩ := ih h.2
    obtain ⟨fi, hfi⟩ := Option.isSome_iff_exists.1 h.1
    obtain ⟨i, d, z, hi, _, _, _, hsz, _⟩ := TI.of hT hfi
    refine ⟨(f.offset, fi.size) :: ps, fun w => ?_, ?_⟩
    · simp only [List.mapM_cons, Sem.run_bind, run_sizeOf hi, Result.andThen_ok, Sem.run_pure, h1, hsz]
    · intro j off ft fj hj hfj
      cases j with
      | zero => simp at hj; obtain ⟨rfl, rfl⟩ := hj; rw [hfi] at hfj; cases hfj; rfl
      | succ j => exact h2 j off ft fj (by simpa using hj) hfj

theorem ok_build (hT : TOK P T) {t : Nat} {parts : Array (Nat × Operand)} {ti : TI} (ho : o.op = .build t parts) (ht : T t = some ti) {fs : List (Nat × Nat)} (hk : ti.kd = .struct fs)
    (hall : (fs.all fun p => (T p.2).isSome) = true) {rs : List V} (hb : bld T st fs ti.zero.cells parts.toList = some rs) (hok : okCells ti.zero.cells = true) : OKp P X L st o (.agg rs) := by
  intro w m cn a hi hs
  obtain ⟨it, d, z, hit, hut, hz, hd, _, _, hzero, _⟩ := TI.of hT ht
  rw [hk] at hd
  obtain ⟨gs, rfl, rfl⟩ := kd_struct hd
  obtain ⟨ps, h1, h2⟩ := places_run hT gs.toList (by simpa using hall)
  have hzR : R w (frz X cn) m (.list ti.zero.cells z.cells.toList) z0 := ((hzero ▸ ofV_R z : R w (frz X cn) m (.one ti.zero z) z0).toCells hok).1
  obtain ⟨cells', h3, h4⟩ := bld_ok hT hs ps.toArray (fun i off ft fi a b => by simpa using h2 i off ft fi a b) parts.toList _ _ _ hzR hb
  refine ⟨.agg cells', fun w _ => ?_, by simpa using R.agg h4⟩
  have hrun : (Instr.build t (parts.map fun (i, x) => (i, a.eval x))).run P w = .ok (.agg cells') w := by
    have hpl : (parts.map fun (p : Nat × Operand) => (p.1, a.eval p.2)).toList = parts.toList.map fun p => (p.1, a.eval p.2) := by rw [Array.toList_map]
    have hm : (gs.mapM fun f => (do pure (f.offset, ← sizeOf f.type) : Sem (Nat × Nat))).run P w = .ok ps.toArray w := by
      rw [Array.mapM_eq_mapM_toList, Sem.run_map, h1]; rfl
    simp only [Instr.build, zeroValue, typeInfo, Sem.run_bind, run_program, Result.andThen_ok, hit, hz, Sem.run_pure, run_underlying hut, hm, hpl, h3]
  simp only [execOp, ho, hrun, Sem.run_bind, Result.andThen_ok, Sem.run_pure]

end
end Go.Ev
