/- Part 4 of what the proofs lean on: an evaluator of Go functions over abstract values. Conditions: none. -/
import Derived.Test.YtfdanoafhehjnaaGreatK02
import Derived.OrdersHeld
set_option linter.all false
set_option linter.unusedVariables false
set_option linter.unusedSimpArgs false
set_option maxHeartbeats 2000000
set_option maxRecDepth 100000
/-! Results that are only read; nil slices that grow; what is known may be less. -/
namespace Go.Ev
open Go

section
variable {X : Ctx} {w : World} {ob : List Ob} {m : Mp} {cn : Nat → Cnt}

/-- what was handed out is frozen -/
theorem Inv.freezeN (hi : Inv X w ob m cn) {N : Nat} (hN : ob.length ≤ N) {r : V} {u : Value} {d : Cnt} (hR : R w (frz X cn) m (.one r u) d) (hd : ∀ z, d z ≤ cn N z) (hnew : ∀ b, 0 < d b → X.w0.heap.size ≤ b) :
    ∃ cn2, Inv X w ob m cn2 ∧ Ext X w m cn w m cn2 ∧ R w (frz X cn2) m (.one r.fz u) z0 := by
  have hle : ∀ i x, upd cn N (fun _ => 0) i x ≤ cn i x := by
    intro i x
    by_cases h : i = N
    · subst h; rw [upd_same]; exact Nat.zero_le _
    · rw [upd_other _ _ h]; exact Nat.le_refl _
  have hext : Ext X w m cn w m (upd cn N (fun _ => 0)) :=
    ⟨Nat.le_refl _, fun x _ hf => ⟨⟨hf.1, fun i => by have := hle i x; have := hf.2 i; omega⟩, rfl⟩, fun _ _ h => ⟨h, rfl⟩⟩
  refine ⟨upd cn N (fun _ => 0), ⟨hi.le, hi.kept, hi.os, hi.tape, hi.output, fun i o ho => ?_, fun x i j h1 h2 => hi.dis x i j (Nat.lt_of_lt_of_le h1 (hle i x)) (Nat.lt_of_lt_of_le h2 (hle j x)), fun i x => Nat.le_trans (hle i x) (hi.one i x),
    fun i x h => hi.new i x (Nat.lt_of_lt_of_le h (hle i x)), hi.fresh, hi.pas, hi.mlt, hi.n0, hi.shp⟩, hext, ?_⟩
  · have := (List.getElem?_eq_some_iff.1 ho).1
    exact (hi.obj i o ho).ext hext (upd_other _ _ (by omega)) rfl (fun _ _ => rfl)
  · refine R.fz (fun b hb h => (hext.fr b hb h).1) hR (fun b hb hc => ⟨.inr (hnew b hc), fun i => ?_⟩) m
    by_cases h : i = N
    · subst h; rw [upd_same]
    · rw [upd_other _ _ h]
      rcases Nat.eq_zero_or_pos (cn i b) with h' | h'
      · exact h'
      · exact absurd (hi.dis b i N h' (Nat.lt_of_lt_of_le hc (hd b))) h

end

mutual
theorem fz_mapId0 : ∀ x : V, (x.mapId (gOut [])).fz = x.fz
  | .junk => rfl
  | .bool _ => rfl
  | .int _ _ => rfl
  | .str _ => rfl
  | .raw _ => rfl
  | .agg xs => by simp only [V.mapId, V.fz, fz_mapIdL0 xs]
  | .tup xs => by simp only [V.mapId, V.fz, fz_mapIdL0 xs]
  | .lst _ _ _ => rfl
  | .bx _ _ => rfl
  | .fp _ => rfl
  | .fmap _ => rfl
  | .ptr _ _ _ => rfl
  | .arr _ _ _ => rfl
  | .clo _ xs ys => by simp only [V.mapId, V.fz, fz_mapIdL0 xs, fz_mapIdL0 ys]
  | .ifc _ x => by simp only [V.mapId, V.fz, fz_mapId0 x]
theorem fz_mapIdL0 : ∀ xs : List V, fzL (mapL (gOut []) xs) = fzL xs
  | [] => rfl
  | x :: xs => by simp only [mapL, fzL, fz_mapId0 x, fz_mapIdL0 xs]
end

section
variable {P : Program} {X : Ctx} {T : Nat → Option TI} {ops : Array Oper} {rest l l' : List Oper} {st s1 s2 : St} {Q : Exit → St → Prop} {o : Oper}

/-- a call whose result is only read from there on -/
theorem Runs.callF {fo : Operand} {as : Array Operand} {ts : Array TypeId} {f : FuncId} {first cap args' : List V} {r : V}
    (ho : o.op = .call { callee := .value fo, args := as, argTypes := ts }) (hg : gd ops st o.guard = some true) (hf : val st fo = .clo (.func f) first cap)
    (ha : mapL (gIn []) (first ++ as.toList.map (val st) ++ cap) = args')
    (hct : Ct P f args' [] r []) (hF : Callable P f) (he : (⟨setD o.dst r.fz st.tm, st.ob⟩ : St) = s1) (hk : Runs P X ops rest s1 s2) : Runs P X ops (o :: rest) st s2 := by
  subst ha; subst he
  intro rest' Q hq
  have hk := hk rest' Q hq
  intro w m cn a hi hs hd
  refine wpList_step fun K hK => ?_
  rw [gd_ok hs hg, if_pos rfl]
  have hfv := val_ok hs fo
  rw [hf] at hfv
  obtain ⟨us1, vs1, he, hfirst, hcap⟩ : ∃ us1 vs1, a.eval fo = .func (.func f) (List.toArray us1) (List.toArray vs1) ∧ R w (frz X cn) m (.list first us1) z0 ∧ R w (frz X cn) m (.list cap vs1) z0 := by
    generalize a.eval fo = u at hfv
    generalize hz : z0 = c at hfv
    cases hfv with
    | clo h1 h2 he =>
      subst hz
      exact ⟨_, _, rfl, h1.zero fun z => by have := he z; simp [z0] at this; omega, h2.zero fun z => by have := he z; simp [z0] at this; omega⟩
  have hargs : ∀ l : List Operand, R w (frz X cn) m (.list (l.map (val st)) (l.map a.eval)) z0 := by
    intro l
    induction l with
    | nil => exact .lnil
    | cons x l ih => exact .lcons (val_ok hs x) ih (fun _ => rfl)
  have hall := ((hfirst.ljoin (hargs as.toList)).ljoin hcap).zero fun z => by simp [z0]
  obtain ⟨hinv, hfr⟩ := callee_inv hi (ps := []) List.nodup_nil (fun id h => by simp at h)
  have hR2 : R w (frz (ctxC X w m cn []) (cnIn [] cn)) m (.list (first ++ as.toList.map (val st) ++ cap) (us1 ++ as.toList.map a.eval ++ vs1)) z0 :=
    hall.mono (Nat.le_refl _) (fun b hb hf => ⟨hfr b hb hf, rfl⟩) (fun _ _ => rfl) trivial (fun _ _ h => ⟨h, rfl⟩)
  have hR3 := R.mapId (g := gIn []) (m' := fun q => (([] : List Nat)[q]?).bind m) (fun id q hg => by rw [gIn_spec hg]; rfl) hR2
  have hcall := hct w (fun b => b < w.heap.size ∧ frz X cn b) (fun q => (([] : List Nat)[q]?).bind m) (cnIn [] cn) (us1 ++ as.toList.map a.eval ++ vs1)
    (fun b hb => ⟨hb.1, fun q => by rw [cnIn_none rfl]⟩) hinv hR3
  unfold Oper.wp
  have hrun : (execOp a.eval o).run P w = .ok (.enter f (us1 ++ as.toList.map a.eval ++ vs1).toArray) w := by
    simp only [execOp, ho, resolve, Deferred.ofValue, he, Sem.run_bind, Sem.run_pure, Result.andThen_ok, invoke]
    rw [run_callFunc hF]
    congr 2
    apply Array.ext'
    simp
  rw [hrun]
  refine Calls.mono hcall ?_
  rintro e w' ⟨u, mc, cnc, d, rfl, h1, h2, h3, n, h4, h5⟩
  have hnewb : ∀ b, 0 < d b → w.heap.size ≤ b := by
    intro b hb
    obtain ⟨_, g2⟩ := h1.new n b (Nat.lt_of_lt_of_le hb (h5 b))
    rcases g2 with g2 | ⟨id, g2⟩
    · exact g2
    · rw [cnIn_none rfl] at g2; exact absurd g2 (by simp [z0])
  obtain ⟨a1, a2, a3, a4⟩ := after_call hi (ps := []) List.nodup_nil (fun id h => by simp at h) h1 h2 h3 h4 h5 (Nat.le_refl _)
  replace a1 : Inv X w' st.ob m _ := a1
  obtain ⟨cn2, b1, b2, b3⟩ := a1.freezeN (Nat.le_refl _) a3 a4 (fun b hb => Nat.le_trans hi.le (hnewb b hb))
  rw [fz_mapId0] at b3
  have hs2 : Sl X w' m cn2 (setD o.dst r.fz st.tm) (a.put o.dst u) := by
    have := (b2.Sl (a2.Sl hs)).set o.dst b3
    cases hod : o.dst <;> simpa [setD, hod] using this
  have hd2 : (a.put o.dst u).defers = [] := by cases hod : o.dst <;> simpa [Act.put] using hd
  exact hK _ _ (hk w' m cn2 _ b1 hs2 hd2)

/-- the same of a function that only reads what it is given -/
theorem Runs.callBF {fo : Operand} {as : Array Operand} {ts : Array TypeId} {f : FuncId} {first cap args' : List V} {r : V}
    (ho : o.op = .call { callee := .value fo, args := as, argTypes := ts }) (hg : gd ops st o.guard = some true) (hf : val st fo = .clo (.func f) first cap)
    (ha : borL st.ob (first ++ as.toList.map (val st) ++ cap) = args')
    (hct : Ct P f args' [] r []) (hF : Callable P f) (hsol : r.solid = true) (he : (⟨setD o.dst r.fz st.tm, st.ob⟩ : St) = s1) (hk : Runs P X ops rest s1 s2) : Runs P X ops (o :: rest) st s2 := by
  subst ha; subst he
  intro rest' Q hq
  have hk := hk rest' Q hq
  intro w m cn a hi hs hd
  refine wpList_step fun K hK => ?_
  rw [gd_ok hs hg, if_pos rfl]
  have hfv := val_ok hs fo
  rw [hf] at hfv
  obtain ⟨us1, vs1, he, hfirst, hcap⟩ : ∃ us1 vs1, a.eval fo = .func (.func f) (List.toArray us1) (List.toArray vs1) ∧ R w (frz X cn) m (.list first us1) z0 ∧ R w (frz X cn) m (.list cap vs1) z0 := by
    generalize a.eval fo = u at hfv
    generalize hz : z0 = c at hfv
    cases hfv with
    | clo h1 h2 he =>
      subst hz
      exact ⟨_, _, rfl, h1.zero fun z => by have := he z; simp [z0] at this; omega, h2.zero fun z => by have := he z; simp [z0] at this; omega⟩
  have hargs : ∀ l : List Operand, R w (frz X cn) m (.list (l.map (val st)) (l.map a.eval)) z0 := by
    intro l
    induction l with
    | nil => exact .lnil
    | cons x l ih => exact .lcons (val_ok hs x) ih (fun _ => rfl)
  have hall := ((hfirst.ljoin (hargs as.toList)).ljoin hcap).zero fun z => by simp [z0]
  let C : Ctx := ⟨w, fun b => b < w.heap.size, fun b => ∃ id, 0 < ((fun _ => z0) : Nat → Cnt) id b, noIds, ([] : List Ob).length⟩
  have hCinv : Inv C w [] noIds (fun _ => z0) := by
    refine ⟨Nat.le_refl _, fun _ _ _ => rfl, rfl, rfl, rfl, fun i o ho => by simp at ho, fun b i j h => absurd h (by simp [z0]), fun i b => by simp [z0], fun i b h => absurd h (by simp [z0]), fun i h => rfl, fun i h => rfl, fun i x h => by simp [noIds] at h, Nat.le_refl _, fun _ _ => rfl⟩
  have hCR : R w (frz C (fun _ => z0)) noIds (.list (borL st.ob (first ++ as.toList.map (val st) ++ cap)) (us1 ++ as.toList.map a.eval ++ vs1)) z0 :=
    borListR hi (fr' := frz C (fun _ => z0)) (fun b hb => ⟨.inl hb, fun _ => rfl⟩) hall (fun _ => rfl) (fun y _ u c h hc => borR hi (fun b hb => ⟨.inl hb, fun _ => rfl⟩) _ rfl h hc)
  have hcall := hct w (fun b => b < w.heap.size) noIds (fun _ => z0) (us1 ++ as.toList.map a.eval ++ vs1) (fun b hb => ⟨hb, fun _ => rfl⟩) hCinv hCR
  unfold Oper.wp
  have hrun : (execOp a.eval o).run P w = .ok (.enter f (us1 ++ as.toList.map a.eval ++ vs1).toArray) w := by
    simp only [execOp, ho, resolve, Deferred.ofValue, he, Sem.run_bind, Sem.run_pure, Result.andThen_ok, invoke]
    rw [run_callFunc hF]
    congr 2
    apply Array.ext'
    simp
  rw [hrun]
  refine Calls.mono hcall ?_
  rintro e w' ⟨u, mc, cnc, d, rfl, h1, h2, h3, n, h4, h5⟩
  have hnew : ∀ i b, 0 < cnc i b → b < w'.heap.size ∧ w.heap.size ≤ b := fun i b h => by
    obtain ⟨g1, g2⟩ := h1.new i b h
    refine ⟨g1, ?_⟩
    rcases g2 with g2 | ⟨id, g2⟩
    · exact g2
    · exact absurd g2 (by simp [z0])
  have h1' : Inv (ctxC X w m cn []) w' [] mc cnc := by
    refine ⟨h1.le, fun b hb hn => h1.kept b hb (fun ⟨id, hid⟩ => absurd hid (by simp [z0])), h1.os, h1.tape, h1.output, fun i o ho => by simp at ho, h1.dis, h1.one, fun i b h => ⟨(hnew i b h).1, .inl (hnew i b h).2⟩, h1.fresh, fun i hi => by simp [ctxC] at hi, h1.mlt, Nat.le_refl _, h1.shp⟩
  have h2' : R w' (frz (ctxC X w m cn []) cnc) mc (.one r u) d := R.solid h2 hsol mc
  obtain ⟨a1, a2, a3, a4⟩ := after_call hi List.nodup_nil (fun id h => by simp at h) h1' h2' rfl (Nat.zero_le n) h5 (Nat.le_refl _)
  rw [solid_mapId _ r hsol] at a3
  replace a1 : Inv X w' st.ob m _ := a1
  obtain ⟨cn2, b1, b2, b3⟩ := a1.freezeN (Nat.le_refl _) a3 a4 (fun b hb => Nat.le_trans hi.le (hnew n b (Nat.lt_of_lt_of_le hb (h5 b))).2)
  have hs2 : Sl X w' m cn2 (setD o.dst r.fz st.tm) (a.put o.dst u) := by
    have := (b2.Sl (a2.Sl hs)).set o.dst b3
    cases hod : o.dst <;> simpa [setD, hod] using this
  have hd2 : (a.put o.dst u).defers = [] := by cases hod : o.dst <;> simpa [Act.put] using hd
  exact hK _ _ (hk w' m cn2 _ b1 hs2 hd2)

end

/-! what is known of a value may be less -/
def WkL (xs ys : List V) : Prop := ∀ (w : World) (fr : Nat → Prop) (m : Mp) (us : List Value) (d : Cnt), R w fr m (.list xs us) d → R w fr m (.list ys us) d
theorem WkL.nil : WkL [] [] := fun _ _ _ _ _ h => h
theorem WkL.cons {x y : V} {xs ys : List V} (h1 : Wk x y) (h2 : WkL xs ys) : WkL (x :: xs) (y :: ys) := fun w fr m us d h => by
  cases h with
  | lcons a b e => exact .lcons (h1 _ _ _ _ _ a) (h2 _ _ _ _ _ b) e
theorem Wk.agg {xs ys : List V} (h : WkL xs ys) : Wk (.agg xs) (.agg ys) := fun w fr m u d hR => by
  obtain ⟨us, rfl, hl⟩ := R.inv_agg hR
  exact .agg (h _ _ _ _ _ hl)
theorem Wk.tup {xs ys : List V} (h : WkL xs ys) : Wk (.tup xs) (.tup ys) := fun w fr m u d hR => by
  obtain ⟨us, rfl, hl⟩ := R.inv_tup hR
  exact .tup (h _ _ _ _ _ hl)
theorem Wk.nilSlice (o : Bool) (k : Nat) : Wk (.raw (.slice none 0 0)) (.lst o k []) := fun w fr m u d hR => by
  cases hR
  exact .nil
theorem Wk.nilArr (id o : Nat) : Wk (.raw (.slice none 0 0)) (.arr id o 0) := fun w fr m u d hR => by
  cases hR
  exact .arrn

theorem R.cset {w : World} {fr : Nat → Prop} {m : Mp} {b : Nat} {x y : V} (hw : Wk x y) : ∀ {xs : List V} {off q : Nat} {c : Cnt}, R w fr m (.cells b off xs) c → xs[q]? = some x → R w fr m (.cells b off (xs.set q y)) c
  | [], _, _, _, _, hx => by simp at hx
  | z :: zs, off, q, c, h, hx => by
    cases h with
    | ccons hc h1c h1 h2 he =>
      cases q with
      | zero => simp at hx; subst hx; exact .ccons hc h1c (hw _ _ _ _ _ h1) h2 he
      | succ q => exact .ccons hc h1c h1 (R.cset hw h2 (by simpa using hx)) he

theorem Inv.wkC {X : Ctx} {w : World} {ob : List Ob} {m : Mp} {cn : Nat → Cnt} (hi : Inv X w ob m cn) {p e j kp : Nat} {xs : List V} {x y : V} (hp : ob[p]? = some (some (kp, xs))) (he : e < xs.length)
    (hj : j < (xs.getD e .junk).cells.length) (hx : (xs.getD e .junk).cells[j]? = some x) (hy : y.cellOK = true) (hw : Wk x y) : Inv X w (ob.set p (some (kp, xs.set e (setC (xs.getD e .junk) j [y])))) m cn := by
  refine ⟨hi.le, hi.kept, hi.os, hi.tape, hi.output, fun i o ho => ?_, hi.dis, hi.one, hi.new, fun i h => hi.fresh i (by simpa using h), hi.pas, hi.mlt, by simpa using hi.n0, hi.shp⟩
  have hplt := (List.getElem?_eq_some_iff.1 hp).1
  by_cases hpi : i = p
  · subst hpi
    rw [List.getElem?_set_self hplt] at ho
    cases ho
    rcases hi.obj i _ hp with ⟨h0, _, _⟩ | ⟨b, cur, el, c, h1, h2, hk, hl, hR, hcn⟩
    · rw [h0] at he; simp at he
    · have hE := uni_at hk he
      have hvc : okCells [y] = true := by simp [okCells, hy]
      have hcells := setC_cells (e := xs.getD e .junk) (j := j) (vc := [y]) (by show j + 1 ≤ _; omega) hvc (by simp)
      have hflat := flat_set hk he hcells (by show j + 1 ≤ _; omega)
      have hk2 : uni kp (xs.set e (setC (xs.getD e .junk) j [y])) := by
        intro z hz
        rcases List.mem_or_eq_of_mem_set hz with h | h
        · exact hk z h
        · rw [h, hcells, List.length_append, List.length_append, List.length_take, List.length_drop]; show min j _ + 1 + (_ - (j + 1)) = _; omega
      have hfl := flat_length hk
      have hq : e * kp + j < (flat xs).length := by
        rw [hfl]
        have : (e + 1) * kp ≤ xs.length * kp := Nat.mul_le_mul_right kp he
        rw [Nat.add_mul] at this; omega
      have hat : (flat xs)[e * kp + j]? = some x := by
        rw [flat_at he, List.append_assoc, List.getElem?_append_right (by rw [flat_take_length hk (Nat.le_of_lt he)]; omega), flat_take_length hk (Nat.le_of_lt he),
          show e * kp + j - e * kp = j from by omega, List.getElem?_append_left hj]
        exact hx
      have hset : flat (xs.set e (setC (xs.getD e .junk) j [y])) = (flat xs).set (e * kp + j) y := by
        rw [hflat, List.set_eq_take_append_cons_drop, if_pos hq, List.append_assoc]
        rfl
      refine .inr ⟨b, cur, el, c, h1, h2, hk2, by rw [List.length_set]; exact hl, ?_, hcn⟩
      rw [hset]
      exact R.cset hw hR hat
  · rw [List.getElem?_set_ne (Ne.symm hpi)] at ho
    exact hi.obj i o ho

/-- an object that is nothing yet -/
theorem Le.nilOb {X : Ctx} (k : Nat) (s : St) : Le X s ⟨s.tm, s.ob ++ [some (k, [])]⟩ := fun w m cn a hi hs => by
  obtain ⟨h1, h2⟩ := hi.nameNil k
  exact ⟨m, _, h1, h2.Sl hs⟩

/-- a nil slice in a cell gets an object of its own -/
def St.nilC (p e j k : Nat) (s : St) : Option St :=
  match s.ob[p]? with
  | some (some (kp, xs)) => match (xs.getD e .junk).cells[j]? with
    | some (.raw (.slice none 0 0)) => if e < xs.length then some ⟨s.tm, s.ob.set p (some (kp, xs.set e (setC (xs.getD e .junk) j [.arr s.ob.length 0 0]))) ++ [some (k, [])]⟩ else none
    | _ => none
  | _ => none
theorem Le.nilC {X : Ctx} (p e j k : Nat) {s s' : St} (h : s.nilC p e j k = some s') : Le X s s' := by
  unfold St.nilC at h
  split at h
  · rename_i kp xs hp
    split at h
    · rename_i hx
      split at h
      · rename_i he
        cases h
        refine fun w m cn a hi hs => ?_
        have h1 := hi.wkC hp he (List.getElem?_eq_some_iff.1 hx).1 hx (y := .arr s.ob.length 0 0) rfl (Wk.nilArr _ _)
        obtain ⟨h2, h3⟩ := h1.nameNil k
        exact ⟨m, _, h2, h3.Sl hs⟩
      · cases h
    · cases h
  · cases h

theorem R.lset {w : World} {fr : Nat → Prop} {m : Mp} {x y : V} (hw : Wk x y) : ∀ {xs : List V} {us : List Value} {q : Nat} {c : Cnt}, R w fr m (.list xs us) c → xs[q]? = some x → R w fr m (.list (xs.set q y) us) c
  | [], _, _, _, _, hx => by simp at hx
  | z :: zs, us, q, c, h, hx => by
    cases h with
    | lcons h1 h2 he =>
      cases q with
      | zero => simp at hx; subst hx; exact .lcons (hw _ _ _ _ _ h1) h2 he
      | succ q => exact .lcons h1 (R.lset hw h2 (by simpa using hx)) he

/-- a slot is known less -/
theorem Le.wkS {X : Ctx} (t : Nat) {x y : V} {s : St} (hw : Wk x y) (hx : s.tm[t]? = some x) : Le X s ⟨s.tm.set t y, s.ob⟩ := fun _ m cn _ hi hs => ⟨m, cn, hi, R.lset hw hs hx⟩
def St.nilS (t k : Nat) (s : St) : St := ⟨s.tm.set t (.arr s.ob.length 0 0), s.ob ++ [some (k, [])]⟩
theorem Le.nilS {X : Ctx} (t k : Nat) {s : St} (hx : s.tm[t]? = some (.raw (.slice none 0 0))) : Le X s (s.nilS t k) := Le.trans (Le.nilOb k s) (Le.wkS t (Wk.nilArr _ _) hx)

end Go.Ev
/-! A region that draws its order and holds calls: what only reads is taken first; meanwhile some objects are out of reach. -/
namespace Go.Ev
open Go

section
variable {P : Program} {ops : Array Oper} {Q : Exit → Act → World → Prop}

theorem wp_mono2 {o : Oper} {a : Act} {w : World} {K K' : Act → World → Prop} {Q' : Exit → Act → World → Prop} (h : ∀ a w, K a w → K' a w) (hq : ∀ e a w, e ≠ .normal → Q e a w → Q' e a w)
    (hh : o.wp P a w K Q) : o.wp P a w K' Q' := by
  unfold Oper.wp at *
  generalize (execOp a.eval o).run P w = r at *
  cases r with
  | ok n w' =>
    cases n <;> simp only [Oper.upon] at hh ⊢ <;>
      first
        | exact h _ _ hh
        | exact Calls.mono hh (fun e w'' he => by cases e <;> first | exact h _ _ he | exact hq _ _ _ nofun he | (obtain ⟨a', w', h'⟩ := he; exact ⟨a', w', hq _ _ _ nofun h'⟩) | exact he)
        | exact Rows.mono hh (fun _ _ he => h _ _ he)
        | exact hh
        | exact hq _ _ _ nofun hh
  | halt x w' => cases x <;> simp only [Oper.upon] at hh ⊢ <;> first | exact hh | exact hq _ _ _ nofun hh

/-- whatever comes up; S holds as long as the tail, from n on, has not begun -/
def wpAnyT (P : Program) (md : Region.Mode) (ops : Array Oper) (Q : Exit → Act → World → Prop) (S : World → Prop) (n : Nat) : Nat → Array Bool → Act → World → Prop
  | 0, listed, a, w => Region.ready md ops listed = [] ∧ Q .normal a w
  | f + 1, listed, a, w => (Region.ready md ops listed = [] → Q .normal a w) ∧
    ∀ i ∈ Region.ready md ops listed, wpOp P ops Q i (fun a' w' => ((listed.setIfInBounds i true).getD n true = false → S w') ∧ wpAnyT P md ops Q S n f (listed.setIfInBounds i true) a' w') a w

theorem wpAny_of_T {md : Region.Mode} {S : World → Prop} {n : Nat} : ∀ (f : Nat) (listed : Array Bool) (a : Act) (w : World), wpAnyT P md ops Q S n f listed a w → wpAny P md ops Q f listed a w
  | 0, _, _, _, h => h
  | f + 1, _, _, _, h => ⟨h.1, fun i hi => wpOp_mono (fun a' w' h' => wpAny_of_T f _ a' w' h'.2) (h.2 i hi)⟩

theorem wpAnyT_first {md : Region.Mode} {S : World → Prop} {n i : Nat} {oi : Oper} {v : Value} (hi : ops[i]? = some oi) (hsel : ∀ (j : Nat) (o : Oper) cs b, ops[j]? = some o → o.op ≠ .select cs b)
    (hs : Region.sinkB md ops n = true) (hc : Region.chainB md ops n = true) (hn : n < ops.size) (hin : i < n) (hQ : ∀ c a w, ¬ Q (.panic c) a w) :
    ∀ (f : Nat) (listed : Array Bool) (a : Act) (w : World), HeadInv md ops n listed →
      (∀ j oj, ops[j]? = some oj → j ≠ i → listed.getD j true = false → (∀ e ∈ oj.after, Region.binds md e = true → e.on ≠ i) → oi.apart ops oj = true) →
      i ∈ Region.ready md ops listed → YieldsIf P ops S oi v a → S w →
      wpAnyT P md ops Q S n f (listed.setIfInBounds i true) (a.put oi.dst v) w → wpAnyT P md ops Q S n (f + 1) listed a w := by
  intro f
  induction f with
  | zero =>
    intro listed a w inv _ hr hy hS H
    refine ⟨fun h => (by rw [h] at hr; cases hr), fun j hj => ?_⟩
    by_cases hji : j = i
    · subst hji; exact hy.wpOp hi hS ⟨fun _ => hS, H⟩
    · have := ready_mono hj hji
      rw [H.1] at this
      cases this
  | succ f ih =>
    intro listed a w inv hfree hr hy hS H
    have hun := (mem_ready.1 hr).1
    refine ⟨fun h => (by rw [h] at hr; cases hr), fun j hj => ?_⟩
    have hjn : j < n := by
      rcases Nat.lt_or_ge j n with h | h
      · exact h
      · exact absurd hj (tail_waits hs hc hn inv _ i rfl hin hun j h)
    by_cases hji : j = i
    · subst hji; exact hy.wpOp hi hS ⟨fun _ => hS, H⟩
    · have h1 := H.2 j (ready_mono hj hji)
      obtain ⟨hjun, oj, hoj, hall⟩ := mem_ready.1 hj
      have hnot : ∀ e ∈ oj.after, Region.binds md e = true → e.on ≠ i := fun e he hb heq => by
        have h1 := hall e he hb
        rw [heq, getD_both hun] at h1
        cases h1
      have h2 := wpOp_putIf hoj (hfree j oj hoj hji hjun hnot) (fun cs b => hsel i oi cs b hi) (fun cs b => hsel j oj cs b hoj) (fun c a w h => absurd h (hQ _ _ _)) hy h1
      have hfree' : ∀ k ok, ops[k]? = some ok → k ≠ i → (listed.setIfInBounds j true).getD k true = false →
          (∀ e ∈ ok.after, Region.binds md e = true → e.on ≠ i) → oi.apart ops ok = true := fun k ok hk hki hun hno => by
        refine hfree k ok hk hki ?_ hno
        by_cases hjk : j = k
        · subst hjk; exact hjun
        · rw [getD_set_ne true hjk] at hun; exact hun
      have htail : ((listed.setIfInBounds i true).setIfInBounds j true).getD n true = false := by
        rw [getD_set_ne true (by omega), getD_set_ne true (by omega)]
        exact inv.tail n (Nat.le_refl _) hn
      refine wpOp_mono (fun a' w' h3 => ⟨fun _ => h3.2.1 htail, ih (listed.setIfInBounds j true) a' w' (inv.set hj hjn) hfree' (ready_mono hr (Ne.symm hji)) h3.1 (h3.2.1 htail) ?_⟩) h2
      rw [Array.setIfInBounds_comm _ _ hji]
      exact h3.2.2

/-- the head, in the order A (taken first), B (one by one); then the tail, from n on -/
def headD (md : Region.Mode) (ops : Array Oper) (n : Nat) : List Nat → Array Bool → Bool
  | i :: B, listed => decide (i < n) && decide (Region.ready md ops listed = [i]) && headD md ops n B (listed.setIfInBounds i true)
  | [], listed => Region.seqB md ops (ops.size - n) n listed
def headB (md : Region.Mode) (ops : Array Oper) (n : Nat) (B : List Nat) : List Nat → Array Bool → Bool
  | i :: A, listed => decide (i < n) && (Region.ready md ops listed).contains i && Region.free md ops listed i && headB md ops n B A (listed.setIfInBounds i true)
  | [], listed => headD md ops n B listed

def heldB (md : Region.Mode) (ops : Array Oper) (n : Nat) (A B : List Nat) : Bool :=
  Region.noSelect ops && decide (n < ops.size) && Region.sinkB md ops n && Region.chainB md ops n && decide (A.length + B.length = n) && headB md ops n B A (Array.replicate ops.size false)

def HeadD (P : Program) (ops : Array Oper) (Q : Exit → Act → World → Prop) (S : World → Prop) (n : Nat) : List Nat → Act → World → Prop
  | i :: B, a, w => wpOp P ops Q i (fun a' w' => S w' ∧ HeadD P ops Q S n B a' w') a w
  | [], a, w => wpList P ops Q (ops.toList.drop n) a w
def HeadC (P : Program) (ops : Array Oper) (Q : Exit → Act → World → Prop) (S : World → Prop) (n : Nat) (B : List Nat) : List Nat → Act → World → Prop
  | i :: A, a, w => ∃ oi v, ops[i]? = some oi ∧ YieldsIf P ops S oi v a ∧ HeadC P ops Q S n B A (a.put oi.dst v) w
  | [], a, w => HeadD P ops Q S n B a w

theorem wpAnyT_tail {md : Region.Mode} {S : World → Prop} {n : Nat} : ∀ (l : List Oper) (k : Nat) (listed : Array Bool) (a : Act) (w : World), n ≤ k → (∀ j, l[j]? = ops[k + j]?) → (n < k → listed.getD n true = true) → listed.size = ops.size →
    Region.seqB md ops l.length k listed = true → wpList P ops Q l a w → wpAnyT P md ops Q S n l.length listed a w
  | [], _, _, _, _, _, _, _, _, hB, h => ⟨by simpa [Region.seqB] using hB, h⟩
  | o :: l, k, listed, a, w, hk, hl, hln, hsz, hB, h => by
    have h0 : ops[k]? = some o := by simpa using (hl 0).symm
    have hklt : k < ops.size := (Array.getElem?_eq_some_iff.1 h0).1
    simp only [List.length_cons, Region.seqB, Bool.and_eq_true, decide_eq_true_eq] at hB
    refine ⟨fun h1 => (by rw [hB.1] at h1; cases h1), fun i hi => ?_⟩
    rw [hB.1] at hi
    have hik : i = k := by simpa using hi
    subst hik
    have hw : wpOp P ops Q i (wpList P ops Q l) a w := by unfold wpOp; simp only [h0]; exact h
    have hlisted : (listed.setIfInBounds i true).getD n true = true := by
      by_cases hni : i = n
      · subst hni
        have : i < listed.size := by omega
        simp [this]
      · rw [getD_set_ne true hni]; exact hln (by omega)
    exact wpOp_mono (fun a' w' h' => ⟨fun hf => (by rw [hlisted] at hf; cases hf), wpAnyT_tail l (i + 1) _ a' w' (by omega) (fun j => by have := hl (j + 1); simpa [Nat.add_assoc, Nat.add_comm 1 j] using this) (fun _ => hlisted) (by simp [hsz]) hB.2 h'⟩) hw

theorem wpAnyT_head {md : Region.Mode} {S : World → Prop} {n : Nat} (hsel : Region.noSelect ops = true) (hn : n < ops.size) (hs : Region.sinkB md ops n = true) (hc : Region.chainB md ops n = true) (hQ : ∀ c a w, ¬ Q (.panic c) a w) :
    ∀ (A B : List Nat) (listed : Array Bool) (a : Act) (w : World), HeadInv md ops n listed → S w → headB md ops n B A listed = true → HeadC P ops Q S n B A a w →
      wpAnyT P md ops Q S n (A.length + B.length + (ops.size - n)) listed a w
  | i :: A, B, listed, a, w, inv, hS, hB, ⟨oi, v, hi, hy, h⟩ => by
    simp only [headB, Bool.and_eq_true, decide_eq_true_eq] at hB
    obtain ⟨⟨⟨hin, hr⟩, hf⟩, hB⟩ := hB
    have hr' : i ∈ Region.ready md ops listed := by simpa using hr
    have := wpAnyT_head hsel hn hs hc hQ A B _ _ _ (inv.set hr' hin) hS hB h
    rw [show (i :: A).length + B.length + (ops.size - n) = (A.length + B.length + (ops.size - n)) + 1 from by simp; omega]
    exact wpAnyT_first hi (Region.noSelect_spec hsel) hs hc hn hin hQ _ listed a w inv (Region.free_spec hi hf) hr' hy hS this
  | [], i :: B, listed, a, w, inv, hS, hB, h => by
    simp only [headB, headD, Bool.and_eq_true, decide_eq_true_eq] at hB
    obtain ⟨⟨hin, hr⟩, hB⟩ := hB
    rw [show ([] : List Nat).length + (i :: B).length + (ops.size - n) = (([] : List Nat).length + B.length + (ops.size - n)) + 1 from by simp; omega]
    refine ⟨fun h0 => (by rw [hr] at h0; cases h0), fun j hj => ?_⟩
    have hmem := hj
    rw [hr] at hj
    have hji : j = i := by simpa using hj
    subst hji
    have h : wpOp P ops Q j (fun a' w' => S w' ∧ HeadD P ops Q S n B a' w') a w := h
    exact wpOp_mono (fun a' w' h' => ⟨fun _ => h'.1, wpAnyT_head hsel hn hs hc hQ [] B _ _ _ (inv.set hmem hin) h'.1 hB h'.2⟩) h
  | [], [], listed, a, w, inv, hS, hB, h => by
    simp only [headB, headD] at hB
    have h : wpList P ops Q (ops.toList.drop n) a w := h
    have hlen : (ops.toList.drop n).length = ops.size - n := by simp
    have := wpAnyT_tail (P := P) (Q := Q) (md := md) (S := S) (n := n) (ops.toList.drop n) n listed a w (Nat.le_refl _) (fun j => by simp) (fun h => by omega) inv.size (by rw [hlen]; exact hB) h
    rw [hlen] at this
    simpa using this

theorem wp_region_heldT {id : Nat} {S : World → Prop} {n : Nat} {A B : List Nat} {a : Act} {w : World} (hm : P.follows .mixedOrders = true) (hB : heldB .any ops n A B = true) (hQ : ∀ c a w, ¬ Q (.panic c) a w)
    (hS : S { w with drawn := w.drawn + 1 }) (h : HeadC P ops Q S n B A a { w with drawn := w.drawn + 1 }) : (Code.region id ops true).wp P Q a w := by
  simp only [heldB, Bool.and_eq_true, decide_eq_true_eq] at hB
  obtain ⟨⟨⟨⟨⟨hsel, hn⟩, hs⟩, hc⟩, hAB⟩, hhead⟩ := hB
  have inv0 : HeadInv .any ops n (Array.replicate ops.size false) :=
    ⟨by simp, fun j oj _ hl => (by rw [getD_replicate_false] at hl; cases hl), fun t _ ht => getD_in (by simpa using ht) (getD_replicate_false _ _)⟩
  have := wpAnyT_head hsel hn hs hc hQ A B _ _ _ inv0 hS hhead h
  rw [show A.length + B.length + (ops.size - n) = ops.size from by omega] at this
  exact wp_region_any hm (wpAny_of_T _ _ _ _ this)
end
end Go.Ev
/-! Objects out of reach for a while. -/
namespace Go.Ev
open Go

def hid : List Nat → List Ob → List Ob
  | [], ob => ob
  | id :: L, ob => hid L (ob.set id none)
def unh (ob : List Ob) : List Nat → List Ob → List Ob
  | [], ob' => ob'
  | id :: L, ob' => (unh ob L ob').set id (ob.getD id none)

theorem hid_length : ∀ (L : List Nat) (ob : List Ob), (hid L ob).length = ob.length
  | [], _ => rfl
  | id :: L, ob => by simp [hid, hid_length L]
theorem unh_length (ob : List Ob) : ∀ (L : List Nat) (ob' : List Ob), (unh ob L ob').length = ob'.length
  | [], _ => rfl
  | id :: L, ob' => by simp [unh, unh_length ob L]
theorem hid_get : ∀ (L : List Nat) (ob : List Ob) (i : Nat) (o : Ob), (hid L ob)[i]? = some o → (i ∈ L ∧ o = none) ∨ (i ∉ L ∧ ob[i]? = some o)
  | [], ob, i, o, h => .inr ⟨by simp, h⟩
  | id :: L, ob, i, o, h => by
    rcases hid_get L _ i o h with ⟨h1, h2⟩ | ⟨h1, h2⟩
    · exact .inl ⟨by simp [h1], h2⟩
    · by_cases hi : i = id
      · subst hi
        have := (List.getElem?_eq_some_iff.1 h2).1
        rw [List.getElem?_set_self (by simpa using this)] at h2
        cases h2
        exact .inl ⟨by simp, rfl⟩
      · rw [List.getElem?_set_ne (Ne.symm hi)] at h2
        exact .inr ⟨by simp [hi, h1], h2⟩
theorem unh_get (ob : List Ob) : ∀ (L : List Nat) (ob' : List Ob) (i : Nat) (o : Ob), (unh ob L ob')[i]? = some o → (i ∈ L ∧ o = ob.getD i none) ∨ (i ∉ L ∧ ob'[i]? = some o)
  | [], ob', i, o, h => .inr ⟨by simp, h⟩
  | id :: L, ob', i, o, h => by
    by_cases hi : i = id
    · subst hi
      have := (List.getElem?_eq_some_iff.1 h).1
      rw [unh, List.getElem?_set_self (by simpa [unh] using this)] at h
      cases h
      exact .inl ⟨by simp, rfl⟩
    · rw [unh, List.getElem?_set_ne (Ne.symm hi)] at h
      rcases unh_get ob L ob' i o h with ⟨h1, h2⟩ | ⟨h1, h2⟩
      · exact .inl ⟨by simp [h1], h2⟩
      · exact .inr ⟨by simp [hi, h1], h2⟩

open Classical in
noncomputable def cnH (L : List Nat) (cn : Nat → Cnt) (id : Nat) : Cnt := if id ∈ L then z0 else cn id
open Classical in
noncomputable def cnU (L : List Nat) (cn0 cn : Nat → Cnt) (id : Nat) : Cnt := if id ∈ L then cn0 id else cn id

def ctxH (X : Ctx) (w : World) (m : Mp) (cn : Nat → Cnt) (L : List Nat) (n : Nat) : Ctx :=
  ⟨w, fun b => b < w.heap.size ∧ frz X cn b, fun b => ∃ id, id ∉ L ∧ 0 < cn id b, m, n⟩

theorem obOK.mono {w : World} {fr fr' : Nat → Prop} {m : Mp} {cnt : Cnt} {id : Nat} {o : Ob} (hf : ∀ b, b < w.heap.size → fr b → fr' b) (h : obOK w fr m cnt id o) : obOK w fr' m cnt id o := by
  cases o with
  | none => trivial
  | some p =>
    rcases h with h | ⟨b, cur, e, c, h1, h2, h3, h4, h5, h6⟩
    · exact .inl h
    · exact .inr ⟨b, cur, e, c, h1, h2, h3, h4, h5.mono (Nat.le_refl _) (fun b hb h => ⟨hf b hb h, rfl⟩) (fun _ _ => rfl) (.inr rfl) (fun _ _ h => ⟨h, rfl⟩), h6⟩

section
variable {X : Ctx} {w : World} {ob : List Ob} {m : Mp} {cn : Nat → Cnt}

theorem Inv.hide (hi : Inv X w ob m cn) (L : List Nat) : Inv (ctxH X w m cn L ob.length) w (hid L ob) m (cnH L cn) ∧ ∀ b, b < w.heap.size → frz X cn b → frz (ctxH X w m cn L ob.length) (cnH L cn) b := by
  have hle : ∀ i b, cnH L cn i b ≤ cn i b := fun i b => by unfold cnH; split <;> simp [z0]
  have hfr : ∀ b, b < w.heap.size → frz X cn b → frz (ctxH X w m cn L ob.length) (cnH L cn) b := fun b hb h => ⟨.inl ⟨hb, h⟩, fun id => by have := hle id b; have := h.2 id; omega⟩
  refine ⟨⟨Nat.le_refl _, fun _ _ _ => rfl, rfl, rfl, rfl, fun i o ho => ?_, fun b i j h1 h2 => hi.dis b i j (Nat.lt_of_lt_of_le h1 (hle _ _)) (Nat.lt_of_lt_of_le h2 (hle _ _)), fun i b => Nat.le_trans (hle i b) (hi.one i b),
    fun i b h => ⟨(hi.new i b (Nat.lt_of_lt_of_le h (hle i b))).1, .inr ?_⟩, fun i h => hi.fresh i (by rw [hid_length] at h; exact h), fun _ _ => rfl, hi.mlt, by rw [hid_length]; exact Nat.le_refl _, fun _ _ => rfl⟩, hfr⟩
  · rcases hid_get L ob i o ho with ⟨_, rfl⟩ | ⟨h1, h2⟩
    · trivial
    · have : cnH L cn i = cn i := by unfold cnH; rw [if_neg h1]
      rw [this]
      exact (hi.obj i o h2).mono hfr
  · by_cases hL : i ∈ L
    · unfold cnH at h; rw [if_pos hL] at h; exact absurd h (by simp [z0])
    · exact ⟨i, hL, Nat.lt_of_lt_of_le h (hle i b)⟩

theorem Inv.unhide {L : List Nat} {w' : World} {ob' : List Ob} {m' : Mp} {cn' : Nat → Cnt} (hi : Inv X w ob m cn) (hL : ∀ id ∈ L, id < ob.length) (h' : Inv (ctxH X w m cn L ob.length) w' ob' m' cn') :
    Inv X w' (unh ob L ob') m' (cnU L cn cn') ∧ (∀ b, frz (ctxH X w m cn L ob.length) cn' b → frz X (cnU L cn cn') b) ∧
      (∀ b, b < w.heap.size → (frz X cn b ∨ ∃ id ∈ L, 0 < cn id b) → w'.heap[b]? = w.heap[b]?) ∧ (∀ b, b < w.heap.size → frz X cn b → frz X (cnU L cn cn') b) := by
  have hin : ∀ id, id ∈ L → cnU L cn cn' id = cn id := fun id h => by unfold cnU; rw [if_pos h]
  have hout : ∀ id, id ∉ L → cnU L cn cn' id = cn' id := fun id h => by unfold cnU; rw [if_neg h]
  have hfr : ∀ b, frz (ctxH X w m cn L ob.length) cn' b → frz X (cnU L cn cn') b := by
    rintro b ⟨h1, h2⟩
    rcases h1 with ⟨hb, h1⟩ | hb
    · refine ⟨h1.1, fun id => ?_⟩
      by_cases h : id ∈ L
      · rw [hin id h]; exact h1.2 id
      · rw [hout id h]; exact h2 id
    · have hb : w.heap.size ≤ b := hb
      refine ⟨.inr (Nat.le_trans hi.le hb), fun id => ?_⟩
      by_cases h : id ∈ L
      · rw [hin id h]
        rcases Nat.eq_zero_or_pos (cn id b) with h0 | h0
        · exact h0
        · have := (hi.new id b h0).1; omega
      · rw [hout id h]; exact h2 id
  have hnew' : ∀ id b, 0 < cn' id b → b < w.heap.size → ∃ k, k ∉ L ∧ 0 < cn k b := fun id b h hb => by
    rcases (h'.new id b h).2 with h | h
    · have : w.heap.size ≤ b := h
      omega
    · exact h
  have hfrz2 : ∀ b, b < w.heap.size → frz X cn b → frz X (cnU L cn cn') b := fun b hb h => ⟨h.1, fun id => by
    by_cases hl : id ∈ L
    · rw [hin id hl]; exact h.2 id
    · rw [hout id hl]
      rcases Nat.eq_zero_or_pos (cn' id b) with h0 | h0
      · exact h0
      · obtain ⟨k, _, hk⟩ := hnew' id b h0 hb
        have := h.2 k; omega⟩
  have hheap : ∀ b, b < w.heap.size → (frz X cn b ∨ ∃ id ∈ L, 0 < cn id b) → w'.heap[b]? = w.heap[b]? := fun b hb h => by
    refine h'.kept b hb fun ⟨k, hk, hc⟩ => ?_
    rcases h with h | ⟨id, hid, hc2⟩
    · have := h.2 k; omega
    · have := hi.dis b id k hc2 hc
      subst this
      exact hk hid
  have hmp : ∀ id x, m id = some x → m' id = some x ∧ w'.shape? x.1 = w.shape? x.1 := fun id x h => by
    have hid : id < ob.length := by
      rcases Nat.lt_or_ge id ob.length with h1 | h1
      · exact h1
      · rw [hi.fresh id h1] at h; cases h
    have := h'.pas id hid
    exact ⟨by rw [this]; exact h, h'.shp x.1 (hi.mlt id x h)⟩
  refine ⟨⟨Nat.le_trans hi.le h'.le, fun b hb ho => ?_, h'.os.trans hi.os, h'.tape.trans hi.tape, h'.output.trans hi.output, fun i o ho => ?_, fun b i j h1 h2 => ?_, fun i b => ?_, fun i b h => ?_,
    fun i h => h'.fresh i (by rw [unh_length] at h; exact h), fun i h => ?_, h'.mlt, by rw [unh_length]; exact Nat.le_trans hi.n0 h'.n0, fun b hb => ?_⟩, hfr, hheap, hfrz2⟩
  · rw [h'.kept b (Nat.lt_of_lt_of_le hb hi.le) (fun ⟨k, _, hk⟩ => ?_)]
    · exact hi.kept b hb ho
    · rcases (hi.new k b hk).2 with h | h
      · omega
      · exact ho h
  · rcases unh_get ob L ob' i o ho with ⟨h1, rfl⟩ | ⟨h1, h2⟩
    · rw [hin i h1]
      have hlt := hL i h1
      have h3 := hi.obj i _ (List.getElem?_eq_getElem hlt)
      rw [List.getD_eq_getElem?_getD, List.getElem?_eq_getElem hlt, Option.getD_some]
      cases hob : ob[i] with
      | none => trivial
      | some p =>
        rw [hob] at h3
        have hmi : m' i = m i := h'.pas i hlt
        rcases h3 with ⟨g1, g2, g3⟩ | ⟨b, cur, e, c, g1, g2, g3, g4, g5, g6⟩
        · exact .inl ⟨g1, by rw [hmi]; exact g2, g3⟩
        · have hb0 : 0 < cn i b := by rw [g6]; simp
          have hbl := (hi.new i b hb0).1
          have hk := hheap b hbl (.inr ⟨i, h1, hb0⟩)
          refine .inr ⟨b, cur, e, c, by rw [hmi]; exact g1, by rw [hk]; exact g2, g3, g4, g5.mono h'.le (fun x hx hf => ⟨hfrz2 x hx hf, hheap x hx (.inl hf)⟩) (fun x hx => ?_) (.inr hk) hmp, g6⟩
          have hx0 : 0 < cn i x := by rw [g6]; omega
          exact hheap x (hi.new i x hx0).1 (.inr ⟨i, h1, hx0⟩)
    · rw [hout i h1]
      exact (h'.obj i o h2).mono (fun b _ h => hfr b h)
  · by_cases hl1 : i ∈ L <;> by_cases hl2 : j ∈ L
    · rw [hin _ hl1] at h1; rw [hin _ hl2] at h2; exact hi.dis b i j h1 h2
    · rw [hin _ hl1] at h1; rw [hout _ hl2] at h2
      obtain ⟨k, hk, hc⟩ := hnew' j b h2 (hi.new i b h1).1
      have := hi.dis b i k h1 hc
      subst this; exact absurd hl1 hk
    · rw [hout _ hl1] at h1; rw [hin _ hl2] at h2
      obtain ⟨k, hk, hc⟩ := hnew' i b h1 (hi.new j b h2).1
      have := hi.dis b j k h2 hc
      subst this; exact absurd hl2 hk
    · rw [hout _ hl1] at h1; rw [hout _ hl2] at h2; exact h'.dis b i j h1 h2
  · by_cases hl : i ∈ L
    · rw [hin _ hl]; exact hi.one i b
    · rw [hout _ hl]; exact h'.one i b
  · by_cases hl : i ∈ L
    · rw [hin _ hl] at h
      have := hi.new i b h
      exact ⟨Nat.lt_of_lt_of_le this.1 h'.le, this.2⟩
    · rw [hout _ hl] at h
      obtain ⟨g1, g2⟩ := h'.new i b h
      refine ⟨g1, ?_⟩
      rcases g2 with g2 | ⟨k, _, hk⟩
      · exact .inl (Nat.le_trans hi.le g2)
      · exact (hi.new k b hk).2
  · rw [h'.pas i (Nat.lt_of_lt_of_le h hi.n0)]; exact hi.pas i h
  · rw [h'.shp b (Nat.lt_of_lt_of_le hb hi.le)]; exact hi.shp b hb

end

/-! the region -/
section
variable {P : Program} {X : Ctx} {T : Nat → Option TI} {ls : List Oper} {L : List Nat} {st s1 s2 s3 : St} {Q : Exit → St → Prop}

/-- what is taken first -/
def runTk (T : Nat → Option TI) (n0 : Nat) (ops : Array Oper) (L : List Nat) : List Nat → St → Option St
  | [], st => some st
  | i :: A, st => match ops[i]? with
    | none => none
    | some o => match gd ops st o.guard with
      | some true => if pureOp o.op = true ∧ rdB st L o.op = true then (match opB T n0 st o.op with
        | some (x, _) => runTk T n0 ops L A ⟨setD o.dst x st.tm, st.ob⟩
        | none => none) else none
      | some false => runTk T n0 ops L A ⟨setD o.dst (.tup []) st.tm, st.ob⟩
      | none => none

theorem runTk_ob {n0 : Nat} {ops : Array Oper} : ∀ {A : List Nat} {st s1 : St}, runTk T n0 ops L A st = some s1 → s1.ob = st.ob
  | [], st, s1, h => by simp only [runTk] at h; cases h; rfl
  | i :: A, st, s1, h => by
    simp only [runTk] at h
    split at h
    · cases h
    · split at h
      · split at h
        · split at h
          · have := runTk_ob h; exact this
          · cases h
        · cases h
      · have := runTk_ob h; exact this
      · cases h

theorem runTk_ok (hT : TOK P T) {n0 n : Nat} {ops : Array Oper} {Qf : Exit → Act → World → Prop} {B : List Nat} {w : World} {m : Mp} {cn : Nat → Cnt} :
    ∀ {A : List Nat} {st s1 : St} {a : Act}, runTk T n0 ops L A st = some s1 → Inv X w st.ob m cn → Sl X w m cn st.tm a → a.defers = [] →
      (∀ a', Sl X w m cn s1.tm a' → a'.defers = [] → HeadD P ops Qf (Kr X cn L w) n B a' w) → HeadC P ops Qf (Kr X cn L w) n B A a w
  | [], st, s1, a, h, hi, hs, hd, hk => by simp only [runTk] at h; cases h; exact hk a hs hd
  | i :: A, st, s1, a, h, hi, hs, hd, hk => by
    simp only [runTk] at h
    split at h
    · cases h
    · rename_i o ho
      split at h
      · rename_i hg
        split at h
        · rename_i hp
          split at h
          · rename_i x st' hx
            obtain ⟨u, hu, hR⟩ := (opB_okp (X := X) (L := L) hT hx hp.1 hp.2).1 w m cn a hi hs
            refine ⟨o, u, ho, .inl ⟨gd_ok hs hg, hu⟩, runTk_ok hT h hi ?_ (put_defers _ _ hd) hk⟩
            have := hs.set o.dst hR
            cases hod : o.dst <;> simpa [setD, hod] using this
          · cases h
        · cases h
      · rename_i hg
        refine ⟨o, undef, ho, .inr ⟨gd_ok hs hg, rfl⟩, runTk_ok hT h hi ?_ (put_defers _ _ hd) hk⟩
        have := hs.set o.dst (x := .tup []) (u := undef) (.tup .lnil)
        cases hod : o.dst <;> simpa [setD, hod] using this
      · cases h

/-- what comes one by one, the objects L out of reach -/
inductive StepsH (P : Program) (ops : Array Oper) (L : List Nat) : List Nat → St → St → Prop
  | nil {s : St} : StepsH P ops L [] s s
  | cons {i : Nat} {o : Oper} {B : List Nat} {s s' s1 s2 : St} (ho : ops[i]? = some o) (hL : ∀ id ∈ L, id < s.ob.length)
      (h : ∀ X' : Ctx, X'.n0 = s.ob.length → Runs P X' ops [o] ⟨s.tm, hid L s.ob⟩ s') (he : (⟨s'.tm, unh s.ob L s'.ob⟩ : St) = s1) (ht : StepsH P ops L B s1 s2) : StepsH P ops L (i :: B) s s2

def normQ (Q : Exit → Act → World → Prop) : Exit → Act → World → Prop
  | .normal, a, w => Q .normal a w
  | _, _, _ => False

theorem stepsH_ok {n : Nat} {ops : Array Oper} {Qf : Exit → Act → World → Prop} {w0 : World} {cn0 : Nat → Cnt} {B : List Nat} (h : StepsH P ops L B st s1) :
    ∀ {w : World} {m : Mp} {cn : Nat → Cnt} {a : Act}, Inv X w st.ob m cn → Sl X w m cn st.tm a → a.defers = [] → Kr X cn0 L w0 w → (∀ b, b < w0.heap.size → frz X cn0 b → frz X cn b) → (∀ id ∈ L, cn id = cn0 id) →
      (∀ w m cn a, Inv X w s1.ob m cn → Sl X w m cn s1.tm a → a.defers = [] → wpList P ops Qf (ops.toList.drop n) a w) → HeadD P ops Qf (Kr X cn0 L w0) n B a w := by
  induction h with
  | nil => intro w m cn a hi hs hd _ _ _ hk; exact hk w m cn a hi hs hd
  | @cons i o B s s' s1 s2 ho hL h he ht ih =>
    intro w m cn a hi hs hd hK hF hC hk
    subst he
    obtain ⟨h1, h2⟩ := hi.hide L
    have hs' : Sl (ctxH X w m cn L s.ob.length) w m (cnH L cn) s.tm a := hs.mono (Nat.le_refl _) (fun b hb hf => ⟨h2 b hb hf, rfl⟩) (fun _ _ => rfl) trivial (fun _ _ h => ⟨h, rfl⟩)
    have hr := h (ctxH X w m cn L s.ob.length) rfl [] (fun e st => e = .normal ∧ st = s') (WL_nil ⟨rfl, rfl⟩) w m (cnH L cn) a h1 hs' hd
    -- one step
    have step : wpList P ops (post (ctxH X w m cn L s.ob.length) (fun e st => e = .normal ∧ st = s')) [o] a w := hr
    have fin : ∀ a' w', post (ctxH X w m cn L s.ob.length) (fun e st => e = .normal ∧ st = s') .normal a' w' → Kr X cn0 L w0 w' ∧ HeadD P ops Qf (Kr X cn0 L w0) n B a' w' := by
      rintro a' w' ⟨st2, m', cn', ⟨_, rfl⟩, hi', hs2, hd'⟩
      obtain ⟨u1, u2, u3, u4⟩ := hi.unhide hL hi'
      have hK' : Kr X cn0 L w0 w' := ⟨Nat.le_trans hK.1 hi'.le, fun b hb hc => by
        rw [u3 b (Nat.lt_of_lt_of_le hb hK.1) (hc.imp (hF b hb) (fun ⟨id, hid, hc⟩ => ⟨id, hid, by rw [hC id hid]; exact hc⟩))]
        exact hK.2 b hb hc⟩
      refine ⟨hK', ih u1 (hs2.mono (Nat.le_refl _) (fun b _ hf => ⟨u2 b hf, rfl⟩) (fun _ _ => rfl) trivial (fun _ _ h => ⟨h, rfl⟩)) hd' hK' (fun b hb hf => u4 b (Nat.lt_of_lt_of_le hb hK.1) (hF b hb hf)) (fun id hid => ?_) hk⟩
      unfold cnU
      rw [if_pos hid]
      exact hC id hid
    show wpOp P ops Qf i _ a w
    unfold wpOp
    simp only [ho]
    unfold wpList at step
    split
    · rename_i hw
      rw [if_pos hw] at step
      rcases step with step | ⟨_, a', w', st2, m', cn', ⟨h0, _⟩, _⟩
      · exact .inl (wp_mono2 (fun a' w' h => fin a' w' h) (fun e a' w' hne ⟨st2, m', cn', ⟨h0, _⟩, _⟩ => absurd h0 hne) step)
      · cases h0
    · rename_i hw
      rw [if_neg hw] at step
      exact fin _ _ step

theorem wpList_mono2 {ops : Array Oper} {Q1 Q2 : Exit → Act → World → Prop} (hn : ∀ a w, Q1 .normal a w → Q2 .normal a w) (hq : ∀ e a w, e ≠ .normal → Q1 e a w → Q2 e a w) :
    ∀ (l : List Oper) (a : Act) (w : World), wpList P ops Q1 l a w → wpList P ops Q2 l a w
  | [], a, w, h => hn a w h
  | o :: l, a, w, h => by
    unfold wpList at h ⊢
    split
    · rename_i hw
      rw [if_pos hw] at h
      exact h.imp (wp_mono2 (fun a w h => wpList_mono2 hn hq l a w h) hq) (fun ⟨h1, a', w', h2⟩ => ⟨h1, a', w', hq _ _ _ nofun h2⟩)
    · rename_i hw
      rw [if_neg hw] at h
      exact wpList_mono2 hn hq l _ _ h

theorem W_held {id n : Nat} {A B : List Nat} (hm : P.follows .mixedOrders = true) (hB : heldB .any ls.toArray n A B = true) (hT : TOK P T) {n0 : Nat} (hX : X.n0 = n0) (hA : runTk T n0 ls.toArray L A st = some s1)
    (hH : StepsH P ls.toArray L B s1 s2) (h2 : Runs P X ls.toArray (ls.drop n) s2 s3) (hq : Q .normal s3) : W P X (.region id ls.toArray true) st Q := by
  intro w m cn a hi hs hd
  have hi' : Inv X { w with drawn := w.drawn + 1 } st.ob m cn := hi.drew
  have hs' : Sl X { w with drawn := w.drawn + 1 } m cn st.tm a := Ext.drew.Sl hs
  have hob := runTk_ob hA
  refine Code.wp_mono (Q := normQ (post X Q)) (fun e a' w' h => ?_) ?_
  · cases e <;> first | exact h | exact h.elim
  refine wp_region_heldT (S := Kr X cn L { w with drawn := w.drawn + 1 }) hm hB (fun _ _ _ h => h) (Kr.refl _) (runTk_ok hT hA hi' hs' hd fun a' hs2 hd2 => ?_)
  refine stepsH_ok hH (hob ▸ hi') hs2 hd2 (Kr.refl _) (fun _ _ h => h) (fun _ _ => rfl) (fun w3 m3 cn3 a3 hi3 hs3 hd3 => ?_)
  have := h2 [] (fun e s => e = .normal ∧ Q .normal s) (WL_nil ⟨rfl, hq⟩) w3 m3 cn3 a3 hi3 hs3 hd3
  rw [List.append_nil] at this
  refine wpList_mono2 (fun a w ⟨s, m, cn, ⟨_, h⟩, r⟩ => ⟨s, m, cn, h, r⟩) (fun e a w hne ⟨s, m, cn, ⟨h0, _⟩, _⟩ => absurd h0 hne) _ _ _ this

theorem W_hseqK {id n : Nat} {A B : List Nat} {y : Code} (ks : List Nat) (L : List Nat) (hm : P.follows .mixedOrders = true) (hB : heldB .any ls.toArray n A B = true) (hT : TOK P T) {n0 : Nat} (hX : X.n0 = n0) (hA : runTk T n0 ls.toArray L A st = some s1)
    (hH : StepsH P ls.toArray L B s1 s2) (h2 : Runs P X ls.toArray (ls.drop n) s2 s3) (hk : W P X y (s3.keep ks) Q) : W P X (.seq (.region id ls.toArray true) y) st Q :=
  W_seq (W_held hm hB hT hX hA hH h2 (W_le (Le.keep ks s3) hk))

end
end Go.Ev
/-! Frames of which only what is known is written down. -/
namespace Go.Ev
open Go

def lkA (i : Nat) : List (Nat × V) → V
  | [] => .junk
  | p :: l => if p.1 = i then p.2 else lkA i l
def spF (l : List (Nat × V)) : Nat → Nat → List V
  | _, 0 => []
  | k, n + 1 => lkA k l :: spF l (k + 1) n
def sp (n : Nat) (l : List (Nat × V)) : List V := spF l 0 n
def ins (i : Nat) (v : V) : List (Nat × V) → List (Nat × V)
  | [] => [(i, v)]
  | p :: l => if i = p.1 then (i, v) :: l else if i < p.1 then (i, v) :: p :: l else p :: ins i v l
def filt (ks : List Nat) : List (Nat × V) → List (Nat × V)
  | [] => []
  | p :: l => if memN p.1 ks = true then p :: filt ks l else filt ks l
def jkA (q : Nat → Bool) : List (Nat × V) → List (Nat × V)
  | [] => []
  | p :: l => (p.1, p.2.jk q) :: jkA q l
def argA (k : Nat) : List V → List (Nat × V)
  | [] => []
  | x :: xs => (k, x) :: argA (k + 1) xs

theorem lkA_ins (i : Nat) (v : V) (k : Nat) : ∀ l, lkA k (ins i v l) = if i = k then v else lkA k l
  | [] => by simp [ins, lkA]
  | p :: l => by
    unfold ins
    split
    · rename_i h
      by_cases hk : i = k
      · simp [lkA, hk]
      · simp [lkA, hk, ← h]
    · split
      · by_cases hk : i = k <;> simp [lkA, hk]
      · rename_i h _
        simp only [lkA, lkA_ins i v k l]
        by_cases hk : i = k
        · subst hk
          have : ¬ p.1 = i := fun e => h e.symm
          simp [this]
        · simp [hk]
theorem lkA_filt (ks : List Nat) (k : Nat) : ∀ l, lkA k (filt ks l) = if memN k ks = true then lkA k l else .junk
  | [] => by simp [filt, lkA]
  | p :: l => by
    unfold filt
    split
    · rename_i h
      simp only [lkA, lkA_filt ks k l]
      by_cases hk : p.1 = k
      · subst hk; simp [h]
      · simp [hk]
    · rename_i h
      simp only [lkA, lkA_filt ks k l]
      by_cases hk : p.1 = k
      · subst hk; simp [h]
      · simp [hk]
theorem lkA_jk (q : Nat → Bool) (k : Nat) : ∀ l, lkA k (jkA q l) = (lkA k l).jk q
  | [] => by simp [jkA, lkA, V.jk]
  | p :: l => by
    simp only [jkA, lkA, lkA_jk q k l]
    split <;> rfl
theorem lkA_arg : ∀ (xs : List V) (k i : Nat), lkA i (argA k xs) = if i < k then .junk else xs.getD (i - k) .junk
  | [], k, i => by simp [argA, lkA]
  | x :: xs, k, i => by
    simp only [argA, lkA, lkA_arg xs (k + 1) i]
    by_cases h : k = i
    · subst h; simp
    · rw [if_neg h]
      by_cases h2 : i < k
      · rw [if_pos h2, if_pos (by omega)]
      · rw [if_neg h2, if_neg (by omega), show i - k = (i - (k + 1)) + 1 from by omega]
        simp

theorem spF_get (l : List (Nat × V)) : ∀ (n k i : Nat), (spF l k n)[i]? = if i < n then some (lkA (k + i) l) else none
  | 0, k, i => by simp [spF]
  | n + 1, k, i => by
    cases i with
    | zero => simp [spF]
    | succ i =>
      simp only [spF, List.getElem?_cons_succ, spF_get l n (k + 1) i]
      rw [show k + 1 + i = k + (i + 1) from by omega]
      by_cases h : i < n
      · rw [if_pos h, if_pos (by omega)]
      · rw [if_neg h, if_neg (by omega)]
theorem sp_get (n : Nat) (l : List (Nat × V)) (i : Nat) : (sp n l)[i]? = if i < n then some (lkA i l) else none := by
  unfold sp; rw [spF_get]; simp
theorem sp_length (n : Nat) (l : List (Nat × V)) : (sp n l).length = n := by
  have : ∀ n k, (spF l k n).length = n := by
    intro n
    induction n with
    | zero => intro k; rfl
    | succ n ih => intro k; simp [spF, ih]
  exact this n 0
theorem sp_ext {xs : List V} {n : Nat} {l : List (Nat × V)} (hn : xs.length = n) (h : ∀ i, i < n → xs[i]? = some (lkA i l)) : xs = sp n l := by
  apply List.ext_getElem?
  intro i
  rw [sp_get]
  split
  · rename_i hi; exact h i hi
  · rename_i hi; rw [List.getElem?_eq_none]; omega
theorem sp_set (n : Nat) (l : List (Nat × V)) (i : Nat) (v : V) : (sp n l).set i v = sp n (ins i v l) := by
  refine sp_ext (by rw [List.length_set, sp_length]) fun k hk => ?_
  rw [lkA_ins, List.getElem?_set, sp_length, sp_get]
  by_cases h : i = k
  · subst h; simp [hk]
  · simp [h, hk]
theorem keepI_get (ks : List Nat) : ∀ (xs : List V) (n i : Nat), (keepI n ks xs)[i]? = (xs[i]?).map fun x => if memN (n + i) ks = true then x else .junk
  | [], n, i => by simp [keepI]
  | x :: xs, n, i => by
    cases i with
    | zero => simp [keepI]
    | succ i =>
      simp only [keepI, List.getElem?_cons_succ, keepI_get ks xs (n + 1) i]
      rw [show n + 1 + i = n + (i + 1) from by omega]
theorem keepI_length (ks : List Nat) : ∀ (xs : List V) (n : Nat), (keepI n ks xs).length = xs.length
  | [], n => by simp [keepI]
  | x :: xs, n => by simp [keepI, keepI_length ks xs]
theorem sp_keep (n : Nat) (ks : List Nat) (l : List (Nat × V)) : keepI 0 ks (sp n l) = sp n (filt ks l) := by
  refine sp_ext (by rw [keepI_length, sp_length]) fun k hk => ?_
  rw [keepI_get, sp_get, lkA_filt, if_pos hk]
  simp
theorem sp_jk (q : Nat → Bool) (n : Nat) (l : List (Nat × V)) : jkL q (sp n l) = sp n (jkA q l) := by
  refine sp_ext (by rw [jkL_map, List.length_map, sp_length]) fun k hk => ?_
  rw [jkL_map, List.getElem?_map, sp_get, lkA_jk, if_pos hk]
  rfl

/-- the same or nothing, slot by slot -/
theorem R.less {w : World} {fr : Nat → Prop} {m : Mp} : ∀ {xs ys : List V} {us : List Value}, R w fr m (.list xs us) z0 → ys.length = xs.length → (∀ (i : Nat) (y : V), ys[i]? = some y → xs[i]? = some y ∨ y = .junk) → R w fr m (.list ys us) z0
  | [], ys, us, h, hl, _ => by
    have : ys = [] := List.eq_nil_of_length_eq_zero (by simpa using hl)
    subst this; exact h
  | x :: xs, [], us, h, hl, _ => by simp at hl
  | x :: xs, y :: ys, us, h, hl, hy => by
    generalize hz : z0 = c at h
    cases h with
    | lcons h1 h2 he =>
      rename_i u us c1 c2
      have e1 : c1 = z0 := funext fun y => by have := he y; rw [← hz] at this; simp [z0] at this ⊢; omega
      have e2 : c2 = z0 := funext fun y => by have := he y; rw [← hz] at this; simp [z0] at this ⊢; omega
      subst e1; subst e2
      have hr := R.less h2 (by simpa using hl) (fun i z hz => by simpa using hy (i + 1) z (by simpa using hz))
      rcases hy 0 y rfl with h0 | h0
      · simp at h0; subst h0; exact .lcons h1 hr (fun _ => by rw [← hz]; simp [z0])
      · subst h0; exact .lcons .junk hr (fun _ => by rw [← hz]; simp [z0])

theorem Le.less {X : Ctx} {xs ys : List V} {ob : List Ob} (hl : ys.length = xs.length) (hy : ∀ (i : Nat) (y : V), ys[i]? = some y → xs[i]? = some y ∨ y = .junk) : Le X ⟨xs, ob⟩ ⟨ys, ob⟩ :=
  fun _ m cn _ hi hs => ⟨m, cn, hi, R.less hs hl hy⟩

theorem Ct_bodyS {P : Program} {T : Nat → Option TI} (hT : TOK P T) {f : FuncId} {fn : Func} {c : Code} (hf : P.funcs[f]? = some fn) (hb : fn.body = some c) (n : Nat) (hn : fn.ntmps = n) {args : List V} (hl : Nat.ble args.length n = true) {ob ob' : List Ob} {r : V}
    (h : ∀ X : Ctx, X.n0 = ob.length → W P X c ⟨sp n (argA 0 args), ob⟩ (Done T fn ob.length r ob')) : Ct P f args ob r ob' := by
  refine Ct_body hT hf hb fun X hX => W_le (Le.less ?_ fun i y hy => ?_) (h X hX)
  · have := Nat.le_of_ble_eq_true hl
    rw [sp_length, List.length_append, List.length_replicate]; omega
  · rw [sp_get] at hy
    split at hy
    · rw [lkA_arg] at hy
      simp at hy
      by_cases hi : i < args.length
      · left
        rw [List.getElem?_append_left hi, List.getElem?_eq_getElem hi]
        rw [List.getElem?_eq_getElem hi] at hy
        simpa using hy
      · right
        rw [List.getElem?_eq_none (by omega)] at hy
        simpa using hy.symm
    · cases hy

/-- two frames in one -/
def mrgA (b : Bool) : List (Nat × V) → List (Nat × V) → List (Nat × V)
  | [], _ => []
  | _, [] => []
  | p :: l1, q :: l2 => if p.1 = q.1 then (p.1, bif b then p.2 else q.2) :: mrgA b l1 l2 else if p.1 < q.1 then (p.1, .junk) :: mrgA b l1 (q :: l2) else (q.1, .junk) :: mrgA b (p :: l1) l2
  termination_by l1 l2 => l1.length + l2.length

theorem mrgA_true (k : Nat) (l1 l2 : List (Nat × V)) : lkA k (mrgA true l1 l2) = lkA k l1 ∨ lkA k (mrgA true l1 l2) = .junk := by
  fun_induction mrgA true l1 l2 with
  | case1 => exact .inr rfl
  | case2 => exact .inr rfl
  | case3 p l1 q l2 h ih =>
    simp only [lkA]
    split
    · exact .inl rfl
    · exact ih
  | case4 p l1 q l2 h h2 ih =>
    by_cases hk : p.1 = k
    · simp [lkA, hk]
    · simp only [lkA, if_neg hk]; exact ih
  | case5 p l1 q l2 h h2 ih =>
    by_cases hk : q.1 = k
    · right; simp [lkA, hk]
    · simp only [lkA, if_neg hk] at ih ⊢; exact ih
theorem mrgA_false (k : Nat) (l1 l2 : List (Nat × V)) : lkA k (mrgA false l1 l2) = lkA k l2 ∨ lkA k (mrgA false l1 l2) = .junk := by
  fun_induction mrgA false l1 l2 with
  | case1 => exact .inr rfl
  | case2 => exact .inr rfl
  | case3 p l1 q l2 h ih =>
    simp only [lkA, h]
    split
    · exact .inl rfl
    · exact ih
  | case4 p l1 q l2 h h2 ih =>
    by_cases hk : p.1 = k
    · right; simp [lkA, hk]
    · simp only [lkA, if_neg hk] at ih ⊢; exact ih
  | case5 p l1 q l2 h h2 ih =>
    by_cases hk : q.1 = k
    · simp [lkA, hk]
    · simp only [lkA, if_neg hk]; exact ih

theorem Le.less_sp {X : Ctx} {n : Nat} {l l' : List (Nat × V)} {ob : List Ob} (h : ∀ k, lkA k l' = lkA k l ∨ lkA k l' = .junk) : Le X ⟨sp n l, ob⟩ ⟨sp n l', ob⟩ :=
  Le.less (by rw [sp_length, sp_length]) fun i y hy => by
    rw [sp_get] at hy ⊢
    split at hy
    · rename_i hi
      rw [if_pos hi]
      simp only [Option.some.injEq] at hy ⊢
      subst hy
      rcases h i with h | h
      · exact .inl h.symm
      · exact .inr h
    · cases hy

section
variable {P : Program} {X : Ctx} {ops : Array Oper} {l : List Oper} {st s1 s0 s2 : St} {Q : Exit → St → Prop}

theorem Runs.mrgS (k d : Nat) (ks : List Nat) {b : Bool} {n : Nat} {l1 l0 : List (Nat × V)} {ob1 ob0 : List Ob} {x : Option V} (hd : st.tm[d]? = x) (hx : x = some (.bool b))
    (h1 : b = true → Runs P X ops (l.take k) ⟨st.tm.set d (.bool true), st.ob⟩ s1) (h0 : b = false → Runs P X ops (l.take k) ⟨st.tm.set d (.bool false), st.ob⟩ s0)
    (e1 : s1 = ⟨sp n l1, ob1⟩) (e0 : s0 = ⟨sp n l0, ob0⟩) (hk : Runs P X ops (l.drop k) ⟨sp n (mrgA b (filt ks l1) (filt ks l0)), mrgL b ob1 ob0⟩ s2) : Runs P X ops l st s2 := by
  subst hx
  refine Runs.trans k ?_ hk
  have hset : ∀ c : Bool, b = c → (⟨st.tm.set d (.bool c), st.ob⟩ : St) = st := fun c hc => by
    subst hc
    rw [set_same hd]
  cases b with
  | true =>
    have := h1 rfl
    rw [hset true rfl, e1] at this
    rw [mrgL_true]
    refine (this.weak (Le.keep ks _)).weak ?_
    rw [St.keep, sp_keep]
    exact Le.less_sp fun k => mrgA_true k _ _
  | false =>
    have := h0 rfl
    rw [hset false rfl, e0] at this
    rw [mrgL_false]
    refine (this.weak (Le.keep ks _)).weak ?_
    rw [St.keep, sp_keep]
    exact Le.less_sp fun k => mrgA_false k _ _

theorem W_condS {c : Operand} {x y : Code} {t : Bool} {v : V} (hc : val st c = v) (hv : v = .bool t) (h1 : t = true → W P X x st Q) (h2 : t = false → W P X y st Q) : W P X (.cond c x y) st Q :=
  W_cond (hc.trans hv) h1 h2

/-- a condition whose two branches come together -/
theorem W_condS2 {c : Operand} {x y z : Code} {b : Bool} {v : V} {n : Nat} {l1 l0 : List (Nat × V)} {ob1 ob0 : List Ob} (ks : List Nat) (hc : val st c = v) (hv : v = .bool b)
    (h1 : b = true → W P X x st (fun e s => e = .normal ∧ s = ⟨sp n l1, ob1⟩)) (h0 : b = false → W P X y st (fun e s => e = .normal ∧ s = ⟨sp n l0, ob0⟩))
    (hk : W P X z ⟨sp n (mrgA b (filt ks l1) (filt ks l0)), mrgL b ob1 ob0⟩ Q) : W P X (.seq (.cond c x y) z) st Q := by
  refine W_seq (W_cond (hc.trans hv) (fun hb => ?_) (fun hb => ?_))
  · subst hb
    refine W_mono (h1 rfl) fun e s ⟨he, hs⟩ => ?_
    subst he; subst hs
    rw [mrgL_true] at hk
    refine W_le (Le.keep ks _) (W_le ?_ hk)
    rw [St.keep, sp_keep]
    exact Le.less_sp fun k => mrgA_true k _ _
  · subst hb
    refine W_mono (h0 rfl) fun e s ⟨he, hs⟩ => ?_
    subst he; subst hs
    rw [mrgL_false] at hk
    refine W_le (Le.keep ks _) (W_le ?_ hk)
    rw [St.keep, sp_keep]
    exact Le.less_sp fun k => mrgA_false k _ _

theorem W_condS3 {c : Operand} {x y z : Code} {b : Bool} {v : V} {n : Nat} {l1 l0 : List (Nat × V)} {ob1 ob0 : List Ob} (ks : List Nat) (hc : val st c = v) (hv : v = .bool b)
    (h1 : b = true → W P X x st (fun e s => e = .normal ∧ s = ⟨sp n l1, ob1⟩)) (h0 : b = false → W P X y st (fun e s => e = .normal ∧ s = ⟨sp n l0, ob0⟩))
    (hk : W P X z ⟨sp n (mrgA b (filt ks l1) (filt ks l0)), mrgL b ob1 ob0⟩ Q) : W P X (.cond c x y) st (thenQ (fun s => W P X z s Q) Q) := by
  refine W_cond (hc.trans hv) (fun hb => ?_) (fun hb => ?_)
  · subst hb
    refine W_mono (h1 rfl) fun e s ⟨he, hs⟩ => ?_
    subst he; subst hs
    rw [mrgL_true] at hk
    refine W_le (Le.keep ks _) (W_le ?_ hk)
    rw [St.keep, sp_keep]
    exact Le.less_sp fun k => mrgA_true k _ _
  · subst hb
    refine W_mono (h0 rfl) fun e s ⟨he, hs⟩ => ?_
    subst he; subst hs
    rw [mrgL_false] at hk
    refine W_le (Le.keep ks _) (W_le ?_ hk)
    rw [St.keep, sp_keep]
    exact Le.less_sp fun k => mrgA_false k _ _

theorem RunsQ.weakL {xs ys : List V} {ob : List Ob} (h : RunsQ P X ops l st ⟨xs, ob⟩) (hl : ys.length = xs.length) (hy : ∀ (i : Nat) (y : V), ys[i]? = some y → xs[i]? = some y ∨ y = .junk) : RunsQ P X ops l st ⟨ys, ob⟩ :=
  ⟨h.1, fun w m cn a rest Qf hi hs hd hq => h.2 w m cn a rest Qf hi hs hd fun a' hs' hd' => hq a' (R.less hs' hl hy) hd'⟩

theorem RunsQ.mrgS (k d : Nat) (ks : List Nat) {b : Bool} {n : Nat} {l1 l0 : List (Nat × V)} {ob1 ob0 : List Ob} {x : Option V} (hd : st.tm[d]? = x) (hx : x = some (.bool b))
    (h1 : b = true → RunsQ P X ops (l.take k) ⟨st.tm.set d (.bool true), st.ob⟩ s1) (h0 : b = false → RunsQ P X ops (l.take k) ⟨st.tm.set d (.bool false), st.ob⟩ s0)
    (e1 : s1 = ⟨sp n l1, ob1⟩) (e0 : s0 = ⟨sp n l0, ob0⟩) (hk : RunsQ P X ops (l.drop k) ⟨sp n (mrgA b (filt ks l1) (filt ks l0)), st.ob⟩ s2) : RunsQ P X ops l st s2 := by
  subst hx
  refine RunsQ.trans k ?_ hk
  have hset : ∀ c : Bool, b = c → (⟨st.tm.set d (.bool c), st.ob⟩ : St) = st := fun c hc => by
    subst hc
    rw [set_same hd]
  have fin : ∀ {xs : List (Nat × V)} {ob : List Ob} (zs : List (Nat × V)), RunsQ P X ops (l.take k) st ⟨sp n xs, ob⟩ → (∀ k, lkA k zs = lkA k (filt ks xs) ∨ lkA k zs = .junk) → RunsQ P X ops (l.take k) st ⟨sp n zs, st.ob⟩ := by
    intro xs ob zs h hz
    have hob : ob = st.ob := h.1
    subst hob
    have h2 := h.weak (ks := ks)
    rw [St.keep, sp_keep] at h2
    refine h2.weakL (by rw [sp_length, sp_length]) fun i y hy => ?_
    rw [sp_get] at hy ⊢
    split at hy
    · rename_i hi
      rw [if_pos hi]
      simp only [Option.some.injEq] at hy ⊢
      subst hy
      rcases hz i with h | h
      · exact .inl h.symm
      · exact .inr h
    · cases hy
  cases b with
  | true =>
    have := h1 rfl
    rw [hset true rfl, e1] at this
    exact fin _ this fun k => mrgA_true k _ _
  | false =>
    have := h0 rfl
    rw [hset false rfl, e0] at this
    exact fin _ this fun k => mrgA_false k _ _
end
end Go.Ev
/-! The search for a byte, which has no body in Go. -/
namespace Go.Ev
open Go

def ixL (c : UInt8) : List UInt8 → Int
  | [] => -1
  | x :: l => if x = c then 0 else if ixL c l < 0 then -1 else ixL c l + 1

theorem firstIdx_ixL (l : List UInt8) (c : UInt8) : firstIdx ⟨l.toArray⟩ c = ixL c l := by
  have key : ∀ l : List UInt8, (match (List.range l.length).find? (fun i => l.getD i 0 == c) with | some i => (i : Int) | none => -1) = ixL c l := by
    intro l
    induction l with
    | nil => rfl
    | cons x l ih =>
      rw [List.length_cons, List.range_succ_eq_map, List.find?_cons, List.find?_map]
      by_cases hx : x = c
      · simp [ixL, hx]
      · have : ((x :: l).getD 0 0 == c) = false := by simpa using hx
        rw [this]
        simp only [ixL, if_neg hx, ← ih]
        have e : ((fun i => (x :: l).getD i 0 == c) ∘ Nat.succ) = (fun i => l.getD i 0 == c) := by funext i; simp
        rw [e]
        cases (List.range l.length).find? (fun i => l.getD i 0 == c) with
        | none => simp
        | some i => simp; omega
  rw [← key]
  unfold firstIdx
  have hs : (⟨l.toArray⟩ : ByteArray).size = l.length := by show l.toArray.size = _; simp
  have hg : (fun i => (⟨l.toArray⟩ : ByteArray)[i]! == c) = (fun i => l.getD i 0 == c) := by
    funext i
    congr 1
    rcases Nat.lt_or_ge i l.length with h | h
    · rw [getElem!_pos _ _ (by rw [hs]; exact h)]
      show (l.toArray)[i]'_ = _
      simp [h]
    · rw [getElem!_neg _ _ (by rw [hs]; omega)]
      simp [List.getD_eq_getElem?_getD, List.getElem?_eq_none h]
      rfl
  rw [hs, hg]
  rfl

section
variable {T : Nat → Option TI} {st : St}
theorem W_retR2 {fn : Func} {n0 : Nat} {r r' : V} {ob' ob'' : List Ob} {z : Option (V × List Ob)} (h : doneR T fn n0 st = z) (hz : z = some (r', ob'')) (hr : Wk r' r) (ho : ob'' = ob') : Done T fn n0 r ob' .ret st := W_retR (h.trans hz) hr ho
theorem W_endR2 {fn : Func} {n0 : Nat} {r r' : V} {ob' ob'' : List Ob} {z : Option (V × List Ob)} (h : doneR T fn n0 st = z) (hz : z = some (r', ob'')) (hr : Wk r' r) (ho : ob'' = ob') : Done T fn n0 r ob' .normal st := W_endR (h.trans hz) hr ho
end

def ExtIB (P : Program) (f : FuncId) : Prop :=
  ∃ fn, P.funcs[f]? = some fn ∧ (fn.name == "runtime.NumGoroutine") = false ∧ fn.body.isNone = true ∧ Extern.findNext fn = none ∧ Extern.find fn = some Extern.BytealgIndexByte.indexByte

theorem Runs.extIB {P : Program} {X : Ctx} {ops : Array Oper} {rest : List Oper} {st s2 : St} {o : Oper} {f : FuncId} {x y : Operand} {ts : Array TypeId} {l : List UInt8} {c : UInt8}
    (ho : o.op = .call { callee := .value (.func f), args := #[x, y], argTypes := ts }) (hg : gd ops st o.guard = some true) (hx : val st x = .str l) (hy : val st y = .int .u8 c.toNat) (hE : ExtIB P f)
    {s1 : St} (he : (⟨setD o.dst (.int .i64 (ixL c l)) st.tm, st.ob⟩ : St) = s1) (hk : Runs P X ops rest s1 s2) : Runs P X ops (o :: rest) st s2 := by
  subst he
  have hop : OKp P X [] st o (.int .i64 (ixL c l)) := by
    intro w m cn a hi hs
    have h1 := val_ok hs x
    have h2 := val_ok hs y
    rw [hx] at h1
    rw [hy] at h2
    obtain ⟨fn, e1, e2, e3, e4, e5⟩ := hE
    refine ⟨.int .i64 (ixL c l), fun w' _ => ?_, .int _ _⟩
    have h3 := run_indexByte_string (P := P) ⟨l.toArray⟩ (c.toNat : Int) w'
    rw [show ((c.toNat : Int).toNat.toUInt8) = c from by simp, firstIdx_ixL] at h3
    have hf : a.eval (.func f) = .func (.func f) #[] #[] := rfl
    simp only [execOp, ho, resolve, Deferred.ofValue, hf, Sem.run_bind, Sem.run_pure, Result.andThen_ok, invoke, List.map_toArray, List.map_cons, List.map_nil, R.inv_str h1, R.inv_int h2]
    rw [run_callFunc_extern e1 e2 e3 e4 e5]
    simp [h3]
  exact fun rest' Q hq => WL_op hop.ok hg (hk rest' Q hq)
end Go.Ev
/-! Arguments seen through, two references deep. -/
namespace Go.Ev
open Go

mutual
def V.borD (ob : List Ob) (g : List V → List V) : V → V
  | .arr id o n => if o + n ≤ (seen ob id).length then .lst false (seenK ob id) (fzL (((seen ob id).drop o).take n)) else .junk
  | .ptr id i j => if i < (seen ob id).length ∧ j ≤ ((seen ob id).getD i .junk).cells.length then .fp (g (((seen ob id).getD i .junk).cells.drop j)) else .junk
  | .lst true k xs => .lst false k (fzL xs)
  | .bx _ x => .fp x.fz.cells
  | .agg xs => .agg (borDL ob g xs)
  | .tup xs => .tup (borDL ob g xs)
  | .clo f xs ys => .clo f (borDL ob g xs) (borDL ob g ys)
  | .ifc t x => .ifc t (x.borD ob g)
  | x => x
def borDL (ob : List Ob) (g : List V → List V) : List V → List V
  | [] => []
  | x :: xs => x.borD ob g :: borDL ob g xs
end
/-- two deep -/
abbrev bor2L (ob : List Ob) : List V → List V := borDL ob (borDL ob fzL)

section
variable {w : World} {fr fr' : Nat → Prop} {m : Mp} {X : Ctx} {ob : List Ob} {cn : Nat → Cnt} {g : List V → List V}

theorem borD1R (hi : Inv X w ob m cn) (hf : ∀ b, b < w.heap.size → fr' b) (hg : ∀ b off xs c, R w (frz X cn) m (.cells b off xs) c → R w fr' noIds (.cells b off (g xs)) z0) {m' : Mp} : ∀ {x : V} {u : Value} {c : Cnt}, R w (frz X cn) m (.one x u) c →
    (∀ xs us c, R w (frz X cn) m (.list xs us) c → (∀ y ∈ xs, SizeOf.sizeOf y < SizeOf.sizeOf x) → R w fr' m' (.list (borDL ob g xs) us) z0) →
    (∀ y u c, SizeOf.sizeOf y < SizeOf.sizeOf x → R w (frz X cn) m (.one y u) c → R w fr' m' (.one (y.borD ob g) u) z0) → R w fr' m' (.one (x.borD ob g) u) z0 := by
  intro x u c h ihL ih1
  have hf' : ∀ b, b < w.heap.size → frz X cn b → fr' b := fun b hb _ => hf b hb
  cases h with
  | junk => exact .junk
  | bool => exact .bool _
  | int => exact .int _ _
  | str => exact .str _
  | raw u h => exact .raw _ h
  | agg h => exact .agg (ihL _ _ _ h (fun y hy => by have := List.sizeOf_lt_of_mem hy; simp only [V.agg.sizeOf_spec]; omega))
  | tup h => exact .tup (ihL _ _ _ h (fun y hy => by have := List.sizeOf_lt_of_mem hy; simp only [V.tup.sizeOf_spec]; omega))
  | @nil _ o k => cases o <;> exact .nil
  | @nilz _ o k a => cases o <;> exact .nilz
  | frz hl hb hk hn h =>
    exact .frz hl (hf _ hl) hk hn (h.mono (Nat.le_refl _) (fun b hb h => ⟨hf b hb, rfl⟩) (fun _ _ => rfl) (.inr rfl) (fun _ _ h => by simp [noIds] at h))
  | own hb hs hk hn h hcc => exact R.fz (m := m) hf' (.own hb hs hk hn h hcc) (fun b hb _ => hf b hb) m'
  | bx hb hs hk h hcc => exact R.fz (m := m) hf' (.bx hb hs hk h hcc) (fun b hb _ => hf b hb) m'
  | fp hl hb h =>
    exact .fp hl (hf _ hl) (h.mono (Nat.le_refl _) (fun b hb h => ⟨hf b hb, rfl⟩) (fun _ _ => rfl) (.inr rfl) (fun _ _ h => by simp [noIds] at h))
  | fmap hl hb he h => exact .fmap hl (hf _ hl) he h
  | @ptr _ id i j b k h =>
    simp only [V.borD]
    split
    · rename_i hcd
      have hne : seen ob id ≠ [] := by intro h0; rw [h0] at hcd; simp at hcd
      obtain ⟨rfl, cur, e, c1, g1, g2, g3, g4, g5⟩ := hi.object (seen_some hne) h
      have hlt : b < w.heap.size := (Array.getElem?_eq_some_iff.1 g1).1
      obtain ⟨c1, c2, c3, _, h2, _, _⟩ := R.elem g4 g2 hcd.1
      rw [← List.take_append_drop j ((seen ob id).getD i .junk).cells] at h2
      obtain ⟨c4, c5, _, h3, _⟩ := R.split h2
      rw [List.length_take, Nat.min_eq_left hcd.2] at h3
      exact .fp hlt (hf _ hlt) (hg _ _ _ _ h3)
    · exact .junk
  | @arr _ id o n b k cap cur e h hb hn hcap =>
    simp only [V.borD]
    split
    · rename_i hcd
      by_cases hn0 : n = 0
      · subst hn0
        have hlt : b < w.heap.size := hi.mlt _ _ h
        simp only [List.take_zero, fzL]
        exact .frz (xs := []) hlt (hf _ hlt) (fun x hx => by simp at hx) (by simp) .cnil
      · have hne : seen ob id ≠ [] := by intro h0; rw [h0] at hcd; simp at hcd; omega
        obtain ⟨rfl, cur, e, c1, g1, g2, g3, g4, g5⟩ := hi.object (seen_some hne) h
        have hlt : b < w.heap.size := (Array.getElem?_eq_some_iff.1 g1).1
        rw [flat_take o] at g4
        obtain ⟨c1, c2, _, q2, q3⟩ := R.split g4
        rw [flat_take_length g2 (by omega), Nat.zero_add, flat_take n] at q2
        obtain ⟨c3, c4, q4, _, q6⟩ := R.split q2
        have hlen : (fzL (((seen ob id).drop o).take n)).length = n := by rw [fzL_length, List.length_take, List.length_drop]; omega
        have := R.frz (w := w) (fr := fr') (m := m') (k := seenK ob id) (xs := fzL (((seen ob id).drop o).take n)) (b := b) (off := o * seenK ob id) (cap := cap) hlt (hf _ hlt) (uni_fzL (uni_take (uni_drop g2 o) n)) (by rw [hlen]; exact hn)
          (by rw [fzL_flat]; exact R.fz hf' q4 (fun b hb _ => hf b hb) noIds)
        rw [hlen] at this
        exact this
    · exact .junk
  | @arrz _ id o b k cap cur e off h hb ho =>
    simp only [V.borD]
    split
    · have hlt : b < w.heap.size := hi.mlt _ _ h
      simp only [List.take_zero, fzL]
      exact .frz (xs := []) hlt (hf _ hlt) (fun x hx => by simp at hx) (by simp) .cnil
    · exact .junk
  | @arrn _ id o =>
    simp only [V.borD]
    split
    · rename_i ad _
      simp only [List.take_zero, fzL]
      cases ad <;> first | exact .nil | exact .nilz
    · exact .junk
  | @clo _ f xs us ys vs c d e h1 h2 he =>
    exact .clo (ihL _ _ _ h1 (fun y hy => by have := List.sizeOf_lt_of_mem hy; simp only [V.clo.sizeOf_spec]; omega))
      (ihL _ _ _ h2 (fun y hy => by have := List.sizeOf_lt_of_mem hy; simp only [V.clo.sizeOf_spec]; omega)) (fun _ => by simp [z0])
  | @ifc _ t x u c h => exact .ifc (ih1 _ _ _ (by simp only [V.ifc.sizeOf_spec]; omega) h)

theorem borDListR (hi : Inv X w ob m cn) (hf : ∀ b, b < w.heap.size → fr' b) (hg : ∀ b off xs c, R w (frz X cn) m (.cells b off xs) c → R w fr' noIds (.cells b off (g xs)) z0) {m' : Mp} : ∀ {xs : List V} {us : List Value} {c : Cnt}, R w (frz X cn) m (.list xs us) c → (∀ y ∈ xs, ∀ u c, R w (frz X cn) m (.one y u) c → R w fr' m' (.one (y.borD ob g) u) z0) →
    R w fr' m' (.list (borDL ob g xs) us) z0 := by
  intro xs
  induction xs with
  | nil => intro us c h _; cases h; exact .lnil
  | cons x xs ih =>
    intro us c h hy
    cases h with
    | lcons h1 h2 he =>
      exact .lcons (hy x (by simp) _ _ h1) (ih h2 (fun y hm => hy y (by simp [hm]))) (fun _ => by simp [z0])

theorem borDR (hi : Inv X w ob m cn) (hf : ∀ b, b < w.heap.size → fr' b) (hg : ∀ b off xs c, R w (frz X cn) m (.cells b off xs) c → R w fr' noIds (.cells b off (g xs)) z0) {m' : Mp} (n : Nat) : ∀ {x : V} {u : Value} {c : Cnt}, SizeOf.sizeOf x = n → R w (frz X cn) m (.one x u) c → R w fr' m' (.one (x.borD ob g) u) z0 := by
  induction n using Nat.strongRecOn with
  | _ n ih =>
    intro x u c hn h
    refine borD1R hi hf hg h ?_ ?_
    · intro xs us c h hlt
      exact borDListR hi hf hg h (fun y hy u c h => ih _ (hn ▸ hlt y hy) rfl h)
    · intro y u c hlt h
      exact ih _ (hn ▸ hlt) rfl h

theorem fzCells (hf : ∀ b, b < w.heap.size → fr' b) : ∀ b off xs c, R w (frz X cn) m (.cells b off xs) c → R w fr' noIds (.cells b off (fzL xs)) z0 :=
  fun _ _ _ _ h => R.fz (fun b hb _ => hf b hb) h (fun b hb _ => hf b hb) noIds

theorem borDCells (hi : Inv X w ob m cn) (hf : ∀ b, b < w.heap.size → fr' b) (hg : ∀ b off xs c, R w (frz X cn) m (.cells b off xs) c → R w fr' noIds (.cells b off (g xs)) z0) :
    ∀ b off xs c, R w (frz X cn) m (.cells b off xs) c → R w fr' noIds (.cells b off (borDL ob g xs)) z0 := by
  intro b off xs
  induction xs generalizing off with
  | nil => intro c h; cases h; exact .cnil
  | cons x xs ih =>
    intro c h
    cases h with
    | ccons hc h1c h1 h2 he => exact .ccons hc h1c (borDR hi hf hg _ rfl h1) (ih _ _ h2) (fun _ => by simp [z0])

theorem bor2ListR (hi : Inv X w ob m cn) (hf : ∀ b, b < w.heap.size → fr' b) {m' : Mp} {xs : List V} {us : List Value} {c : Cnt} (h : R w (frz X cn) m (.list xs us) c) :
    R w fr' m' (.list (bor2L ob xs) us) z0 :=
  borDListR hi hf (borDCells hi hf (fzCells hf)) h (fun _ _ _ _ h => borDR hi hf (borDCells hi hf (fzCells hf)) _ rfl h)
end

section
variable {P : Program} {X : Ctx} {T : Nat → Option TI} {ops : Array Oper} {rest l l' : List Oper} {st s1 s2 : St} {Q : Exit → St → Prop} {o : Oper}
/-- a call of a function that only reads what it is given -/
theorem Runs.callB2 {fo : Operand} {as : Array Operand} {ts : Array TypeId} {f : FuncId} {first cap args' : List V} {r : V}
    (ho : o.op = .call { callee := .value fo, args := as, argTypes := ts }) (hg : gd ops st o.guard = some true) (hf : val st fo = .clo (.func f) first cap)
    (ha : bor2L st.ob (first ++ as.toList.map (val st) ++ cap) = args')
    (hct : Ct P f args' [] r []) (hF : Callable P f) (hsol : r.solid = true) (he : (⟨setD o.dst (nameV st.ob r).1 st.tm, (nameV st.ob r).2⟩ : St) = s1) (hk : Runs P X ops rest s1 s2) : Runs P X ops (o :: rest) st s2 := by
  subst ha; subst he
  intro rest' Q hq
  have hk := hk rest' Q hq
  intro w m cn a hi hs hd
  refine wpList_step fun K hK => ?_
  rw [gd_ok hs hg, if_pos rfl]
  have hfv := val_ok hs fo
  rw [hf] at hfv
  obtain ⟨us1, vs1, he, hfirst, hcap⟩ : ∃ us1 vs1, a.eval fo = .func (.func f) (List.toArray us1) (List.toArray vs1) ∧ R w (frz X cn) m (.list first us1) z0 ∧ R w (frz X cn) m (.list cap vs1) z0 := by
    generalize a.eval fo = u at hfv
    generalize hz : z0 = c at hfv
    cases hfv with
    | clo h1 h2 he =>
      subst hz
      exact ⟨_, _, rfl, h1.zero fun z => by have := he z; simp [z0] at this; omega, h2.zero fun z => by have := he z; simp [z0] at this; omega⟩
  have hargs : ∀ l : List Operand, R w (frz X cn) m (.list (l.map (val st)) (l.map a.eval)) z0 := by
    intro l
    induction l with
    | nil => exact .lnil
    | cons x l ih => exact .lcons (val_ok hs x) ih (fun _ => rfl)
  have hall := ((hfirst.ljoin (hargs as.toList)).ljoin hcap).zero fun z => by simp [z0]
  let C : Ctx := ⟨w, fun b => b < w.heap.size, fun b => ∃ id, 0 < ((fun _ => z0) : Nat → Cnt) id b, noIds, ([] : List Ob).length⟩
  have hCinv : Inv C w [] noIds (fun _ => z0) := by
    refine ⟨Nat.le_refl _, fun _ _ _ => rfl, rfl, rfl, rfl, fun i o ho => by simp at ho, fun b i j h => absurd h (by simp [z0]), fun i b => by simp [z0], fun i b h => absurd h (by simp [z0]), fun i h => rfl, fun i h => rfl, fun i x h => by simp [noIds] at h, Nat.le_refl _, fun _ _ => rfl⟩
  have hCR : R w (frz C (fun _ => z0)) noIds (.list (bor2L st.ob (first ++ as.toList.map (val st) ++ cap)) (us1 ++ as.toList.map a.eval ++ vs1)) z0 :=
    bor2ListR hi (fr' := frz C (fun _ => z0)) (fun b hb => ⟨.inl hb, fun _ => rfl⟩) hall
  have hcall := hct w (fun b => b < w.heap.size) noIds (fun _ => z0) (us1 ++ as.toList.map a.eval ++ vs1) (fun b hb => ⟨hb, fun _ => rfl⟩) hCinv hCR
  unfold Oper.wp
  have hrun : (execOp a.eval o).run P w = .ok (.enter f (us1 ++ as.toList.map a.eval ++ vs1).toArray) w := by
    simp only [execOp, ho, resolve, Deferred.ofValue, he, Sem.run_bind, Sem.run_pure, Result.andThen_ok, invoke]
    rw [run_callFunc hF]
    congr 2
    apply Array.ext'
    simp
  rw [hrun]
  refine Calls.mono hcall ?_
  rintro e w' ⟨u, mc, cnc, d, rfl, h1, h2, h3, n, h4, h5⟩
  have h1' : Inv (ctxC X w m cn []) w' [] mc cnc := by
    refine ⟨h1.le, fun b hb hn => h1.kept b hb (fun ⟨id, hid⟩ => absurd hid (by simp [z0])), h1.os, h1.tape, h1.output, fun i o ho => by simp at ho, h1.dis, h1.one, fun i b h => ?_, h1.fresh, fun i hi => by simp [ctxC] at hi, h1.mlt, Nat.le_refl _, h1.shp⟩
    obtain ⟨g1, g2⟩ := h1.new i b h
    refine ⟨g1, .inl ?_⟩
    rcases g2 with g2 | ⟨id, g2⟩
    · exact g2
    · exact absurd g2 (by simp [z0])
  have h2' : R w' (frz (ctxC X w m cn []) cnc) mc (.one r u) d := R.solid h2 hsol mc
  have hN : st.ob.length ≤ (nameV st.ob r).2.length := nameV_len st.ob r
  obtain ⟨a1, a2, a3, a4⟩ := after_call hi List.nodup_nil (fun id h => by simp at h) h1' h2' rfl (Nat.zero_le n) h5 hN
  rw [solid_mapId _ r hsol] at a3
  replace a1 : Inv X w' st.ob m _ := a1
  obtain ⟨m2, cn2, b1, b2, b3, _, _⟩ := nameV_ok r a1 (Nat.le_refl _) a3 a4
  have hs2 : Sl X w' m2 cn2 (setD o.dst (nameV st.ob r).1 st.tm) (a.put o.dst u) := by
    have := (b2.Sl (a2.Sl hs)).set o.dst b3
    cases hod : o.dst <;> simpa [setD, hod] using this
  have hd2 : (a.put o.dst u).defers = [] := by cases hod : o.dst <;> simpa [Act.put] using hd
  exact hK _ _ (hk w' m2 cn2 _ b1 hs2 hd2)

end
end Go.Ev
/-! A map that is being built: one block of the activation's own, beside its objects. -/
namespace Go.Ev
open Go

abbrev ES := List (List UInt8 × Int)

def isMap (w : World) (bm : Nat) (es : ES) : Prop :=
  ∃ ens clock, w.heap[bm]? = some (.map ens clock) ∧ ens.toList.map (fun e => (e.key, e.val)) = es.map (fun p => (Value.string ⟨p.1.toArray⟩, Value.int .i64 p.2))

def JM (X : Ctx) (bm : Nat) (es : ES) (w : World) (cn : Nat → Cnt) : Prop :=
  bm < X.w0.heap.size ∧ X.own0 bm ∧ ¬ X.fr0 bm ∧ isMap w bm es ∧ ∀ id, cn id bm = 0

section
variable {P : Program} {X : Ctx} {T : Nat → Option TI} {bm : Nat} {es : ES} {st : St}

def postJ (X : Ctx) (bm : Nat) (Q : Exit → St → ES → Prop) (e : Exit) (a : Act) (w : World) : Prop :=
  ∃ st m cn es, Q e st es ∧ Inv X w st.ob m cn ∧ Sl X w m cn st.tm a ∧ a.defers = [] ∧ JM X bm es w cn

def WJ (P : Program) (X : Ctx) (bm : Nat) (c : Code) (st : St) (es : ES) (Q : Exit → St → ES → Prop) : Prop :=
  ∀ w m cn a, Inv X w st.ob m cn → Sl X w m cn st.tm a → a.defers = [] → JM X bm es w cn → c.wp P (postJ X bm Q) a w

/-- the map stands there, and nothing owns it -/
def MK (X : Ctx) (bm : Nat) (es : ES) : Prop := bm < X.w0.heap.size ∧ ¬ X.own0 bm ∧ isMap X.w0 bm es

theorem WJ_lift {c : Code} {Q : Exit → St → ES → Prop} (h : ∀ X', X'.n0 = st.ob.length → MK X' bm es → W P X' c st (fun e s => Q e s es)) : WJ P X bm c st es Q := by
  intro w m cn a hi hs hd ⟨j1, j2, j3, j4, j5⟩
  obtain ⟨h1, h2⟩ := hi.hide []
  have hbw : bm < w.heap.size := Nat.lt_of_lt_of_le j1 hi.le
  have hmk : MK (ctxH X w m cn [] st.ob.length) bm es := ⟨hbw, fun ⟨id, _, hid⟩ => by rw [j5 id] at hid; omega, j4⟩
  have hs' : Sl (ctxH X w m cn [] st.ob.length) w m (cnH [] cn) st.tm a :=
    R.mono hs (Nat.le_refl _) (fun b hb hf => ⟨h2 b hb hf, rfl⟩) (fun _ _ => rfl) trivial (fun _ _ h => ⟨h, rfl⟩)
  refine Code.wp_mono ?_ (h _ rfl hmk w m (cnH [] cn) a h1 hs' hd)
  rintro e a' w' ⟨s, m', cn', hq, hi', hs2, hd2⟩
  obtain ⟨g1, g2, g3, g4⟩ := hi.unhide (L := []) (fun _ h => by cases h) hi'
  refine ⟨s, m', _, es, hq, g1, ?_, hd2, j1, j2, j3, ?_, fun id => ?_⟩
  · exact R.mono hs2 (Nat.le_refl _) (fun b hb hf => ⟨g2 b hf, rfl⟩) (fun _ _ => rfl) trivial (fun _ _ h => ⟨h, rfl⟩)
  · obtain ⟨ens, clock, k1, k2⟩ := j4
    exact ⟨ens, clock, by rw [hi'.kept bm hbw hmk.2.1]; exact k1, k2⟩
  · show cnU [] cn cn' id bm = 0
    unfold cnU
    rw [if_neg (by simp)]
    rcases Nat.eq_zero_or_pos (cn' id bm) with h0 | h0
    · exact h0
    · rcases (hi'.new id bm h0).2 with h | h
      · have : w.heap.size ≤ bm := h
        omega
      · exact absurd h hmk.2.1

def thenJ (K : St → ES → Prop) (Q : Exit → St → ES → Prop) : Exit → St → ES → Prop
  | .normal, st, es => K st es
  | e, st, es => Q e st es

def blockJ (id : Nat) (Q : Exit → St → ES → Prop) : Exit → St → ES → Prop
  | .exit id', st, es => if id' = id then Q .normal st es else Q (.exit id') st es
  | e, st, es => Q e st es

variable {Q : Exit → St → ES → Prop}

theorem WJ_seq {x y : Code} (h : WJ P X bm x st es (thenJ (fun s es => WJ P X bm y s es Q) Q)) : WJ P X bm (.seq x y) st es Q := by
  intro w m cn a hi hs hd hj
  refine wp_seq (Code.wp_mono ?_ (h w m cn a hi hs hd hj))
  rintro e a' w' ⟨s, m', cn', es', hq, hi', hs', hd', hj'⟩
  cases e with
  | normal => exact hq w' m' cn' a' hi' hs' hd' hj'
  | _ => exact ⟨s, m', cn', es', hq, hi', hs', hd', hj'⟩

theorem WJ_block {id : Nat} {c : Code} (h : WJ P X bm c st es (blockJ id Q)) : WJ P X bm (.block id c) st es Q := by
  intro w m cn a hi hs hd hj
  refine wp_block (Code.wp_mono ?_ (h w m cn a hi hs hd hj))
  rintro e a' w' ⟨s, m', cn', es', hq, hi', hs', hd', hj'⟩
  cases e with
  | exit id' =>
    simp only [Exit.inBlock]
    simp only [blockJ] at hq
    split <;> rename_i hid
    · rw [if_pos hid] at hq; exact ⟨s, m', cn', es', hq, hi', hs', hd', hj'⟩
    · rw [if_neg hid] at hq; exact ⟨s, m', cn', es', hq, hi', hs', hd', hj'⟩
  | _ => exact ⟨s, m', cn', es', hq, hi', hs', hd', hj'⟩

theorem WJ_loop {α : Type} {c : Code} (f : α → St) (E : α → ES) (I : α → Prop) (μ : α → Nat) (a0 : α) (h0 : st = f a0) (he : es = E a0) (hI : I a0)
    (round : ∀ a, I a → WJ P X bm c (f a) (E a) (thenJ (fun s' es' => ∃ a', s' = f a' ∧ es' = E a' ∧ I a' ∧ μ a' < μ a) Q)) : WJ P X bm (.loop c) st es Q := by
  subst h0 he
  intro w m cn a hi hs hd hj
  intro b k cs
  have key : ∀ n x, μ x = n → I x → ∀ w m cn a, Inv X w (f x).ob m cn → Sl X w m cn (f x).tm a → a.defers = [] → JM X bm (E x) w cn →
      ∃ e a' w', postJ X bm Q e a' w' ∧ Arrives P (lone (b.at a (.code c :: .inLoop c :: k)) cs w) b k cs e a' w' := by
    intro n
    induction n using Nat.strongRecOn with
    | _ n ih =>
      intro x hn hI w m cn a hi hs hd hj
      obtain ⟨e, a₁, w₁, ⟨s₁, m₁, cn₁, es₁, hq, hi₁, hs₁, hd₁, hj₁⟩, harr⟩ := round x hI w m cn a hi hs hd hj b (.inLoop c :: k) cs
      cases e with
      | normal =>
        obtain ⟨x', rfl, rfl, hI₁, hlt⟩ := hq
        obtain ⟨e₂, a₂, w₂, hq₂, harr₂⟩ := ih (μ x') (hn ▸ hlt) x' rfl hI₁ w₁ m₁ cn₁ a₁ hi₁ hs₁ hd₁ hj₁
        exact ⟨e₂, a₂, w₂, hq₂, .of_steps (Steps.trans harr (.one step_inLoop)) harr₂⟩
      | exit id => exact ⟨_, a₁, w₁, ⟨s₁, m₁, cn₁, es₁, hq, hi₁, hs₁, hd₁, hj₁⟩, .pass (x := .inLoop c) rfl (fun _ _ => .inl (by simp)) harr⟩
      | goto l => exact ⟨_, a₁, w₁, ⟨s₁, m₁, cn₁, es₁, hq, hi₁, hs₁, hd₁, hj₁⟩, .pass (x := .inLoop c) rfl (fun _ _ => .inl (by simp)) harr⟩
      | ret => exact ⟨_, a₁, w₁, ⟨s₁, m₁, cn₁, es₁, hq, hi₁, hs₁, hd₁, hj₁⟩, .pass (x := .inLoop c) rfl (fun _ _ => .inl (by simp)) harr⟩
      | panic ch => exact ⟨_, a₁, w₁, ⟨s₁, m₁, cn₁, es₁, hq, hi₁, hs₁, hd₁, hj₁⟩, .pass (x := .inLoop c) rfl (fun _ _ => .inl (by simp)) harr⟩
      | outgrown => exact ⟨_, a₁, w₁, ⟨s₁, m₁, cn₁, es₁, hq, hi₁, hs₁, hd₁, hj₁⟩, .pass (x := .inLoop c) rfl (fun _ _ => .inl (by simp)) harr⟩
  obtain ⟨e, a', w', hq, harr⟩ := key _ a0 rfl hI w m cn a hi hs hd hj
  exact ⟨e, a', w', hq, .of_steps (.one step_loop) harr⟩

/-- the map's block gets other entries -/
theorem JM.update {w : World} {m : Mp} {cn : Nat → Cnt} {ob : List Ob} {tm : List V} {a : Act} (hi : Inv X w ob m cn) (hs : Sl X w m cn tm a) (hj : JM X bm es w cn) {es' : ES} {ens : Array MapEntry} {clock : Nat}
    (he : ens.toList.map (fun e => (e.key, e.val)) = es'.map (fun p => (Value.string ⟨p.1.toArray⟩, Value.int .i64 p.2))) :
    Inv X { w with heap := w.heap.setIfInBounds bm (.map ens clock) } ob m cn ∧ Sl X { w with heap := w.heap.setIfInBounds bm (.map ens clock) } m cn tm a ∧ JM X bm es' { w with heap := w.heap.setIfInBounds bm (.map ens clock) } cn := by
  obtain ⟨j1, j2, j3, ⟨ens0, clock0, k1, k2⟩, j5⟩ := hj
  obtain ⟨s1, s2⟩ := MapKept.heap_set (w := w) (o' := .map ens clock) k1
  have hsh : ∀ b, World.shape? { w with heap := w.heap.setIfInBounds bm (.map ens clock) } b = w.shape? b := by
    intro b
    by_cases hb : b = bm
    · subst hb
      simp only [World.shape?, s1, k1]
    · simp only [World.shape?, s2 b hb]
  have hfz : ∀ b, frz X cn b → b ≠ bm := by
    rintro b ⟨h1, _⟩ rfl
    rcases h1 with h1 | h1
    · exact j3 h1
    · omega
  have hsz : w.heap.size ≤ (World.heap { w with heap := w.heap.setIfInBounds bm (.map ens clock) }).size := by simp
  have hR : ∀ {j : J} {c : Cnt}, R w (frz X cn) m j c → (∀ b, 0 < c b → b ≠ bm) → (j.here fun b => (w.heap.setIfInBounds bm (.map ens clock))[b]? = w.heap[b]?) →
      R { w with heap := w.heap.setIfInBounds bm (.map ens clock) } (frz X cn) m j c := fun h hc hh =>
    h.mono hsz (fun b _ hf => ⟨hf, s2 b (hfz b hf)⟩) (fun b hb => s2 b (hc b hb)) hh (fun id x hx => ⟨hx, hsh _⟩)
  refine ⟨⟨Nat.le_trans hi.le hsz, fun b hb ho => ?_, hi.os, hi.tape, hi.output, fun i o ho => ?_, hi.dis, hi.one, fun i b h => ⟨Nat.lt_of_lt_of_le (hi.new i b h).1 hsz, (hi.new i b h).2⟩, hi.fresh, hi.pas, fun id x hx => Nat.lt_of_lt_of_le (hi.mlt id x hx) hsz, hi.n0, fun b hb => ?_⟩,
    hR hs (fun b hb => absurd hb (by simp [z0])) trivial, j1, j2, j3, ⟨ens, clock, s1, he⟩, j5⟩
  · have : b ≠ bm := fun e => ho (e ▸ j2)
    show (w.heap.setIfInBounds bm (.map ens clock))[b]? = _
    rw [s2 b this]; exact hi.kept b hb ho
  · have h := hi.obj i o ho
    cases o with
    | none => trivial
    | some p =>
      rcases h with h | ⟨b, cur, e, c, h1, h2, h3, h4, h5, h6⟩
      · exact .inl h
      · have hb : b ≠ bm := by
          rintro rfl
          have := j5 i
          rw [h6] at this
          simp at this
        refine .inr ⟨b, cur, e, c, h1, by show (w.heap.setIfInBounds bm (.map ens clock))[b]? = _; rw [s2 b hb]; exact h2, h3, h4, hR h5 (fun x hx => ?_) (.inr (s2 b hb)), h6⟩
        rintro rfl
        have := j5 i
        rw [h6] at this
        omega
  · rw [hsh]; exact hi.shp b hb
end
end Go.Ev
namespace Go.Ev
open Go

section
variable {P : Program} {X : Ctx} {T : Nat → Option TI} {bm : Nat} {es : ES} {st s1 : St} {o : Oper} {Q : Exit → St → ES → Prop}

theorem isMap.drew {w : World} (h : isMap w bm es) : isMap w.drew bm es := h
theorem JM.drew {w : World} {cn : Nat → Cnt} (h : JM X bm es w cn) : JM X bm es w.drew cn := h

/-- a new entry -/
theorem WJ_mapSet {id : Nat} {ls : List Oper} (n : Nat) (hT : TOK P T) (hm : P.follows .mixedOrders = true) (hB : Region.lexTailB .any ls.toArray n = true) (h : RunsS P X ls.toArray (ls.take n) st s1)
    (hl : ls.drop n = [o]) (hg : gd ls.toArray s1 o.guard = some true) (hd : o.dst = none) {t kt et : Nat} {x y z : Operand} {ti ki : TI} (ho : o.op = .mapUpdate t x y z) (ht : T t = some ti) (hk : ti.kd = .map kt et) (hkt : T kt = some ki) (hks : ki.kd = .str)
    (hx : val s1 x = .raw (.map (some bm))) {s : List UInt8} (hy : val s1 y = .str s) {i : Int} (hz : val s1 z = .int .i64 i) (hnone : lookM es s = none) (hq : Q .normal s1 (es ++ [(s, i)])) :
    WJ P X bm (.region id ls.toArray true) st es Q := by
  intro w m cn a hi hs hdf hj
  refine wp_region_still_tail n hm hB ?_
  refine h.2 { w with drawn := w.drawn + 1 } m cn a _ hi.drew (Ext.drew.Sl hs) hdf (fun a' hs' hd' => ?_)
  rw [hl]
  refine wpList_step fun K hK => ?_
  rw [gd_ok hs' hg, if_pos rfl]
  obtain ⟨_, d, _, _, hu, _, hdd, _⟩ := TI.of hT ht
  obtain ⟨_, d2, _, _, hu2, _, hd2, _⟩ := TI.of hT hkt
  rw [hk] at hdd
  have := kd_map hdd
  subst this
  rw [hks] at hd2
  have := kd_str hd2
  subst this
  have h1 := val_ok hs' x
  have h2 := val_ok hs' y
  have h3 := val_ok hs' z
  rw [hx] at h1
  rw [hy] at h2
  rw [hz] at h3
  have e1 : a'.eval x = .map (some bm) := by
    generalize a'.eval x = u at h1
    cases h1; rfl
  have e3 : a'.eval z = .int .i64 i := by
    generalize a'.eval z = u at h3
    cases h3; rfl
  obtain ⟨j1, j2, j3, ⟨ens, clock, k1, k2⟩, j5⟩ := hj
  obtain ⟨r, hr, hqr⟩ := findNow_lookM s ens.toList es 0 k2
  rw [hnone] at hqr
  have hr0 : r = none := by cases r <;> simp at hqr ⊢
  subst hr0
  obtain ⟨q1, q2, q3⟩ := JM.update (ens := ens.push { key := .string ⟨s.toArray⟩, val := .int .i64 i, born := clock }) (clock := clock + 1) (es' := es ++ [(s, i)]) (hi.drew) hs' ⟨j1, j2, j3, ⟨ens, clock, k1, k2⟩, j5⟩ (by simp [k2])
  have k1' : w.drew.heap[bm]? = some (.map ens clock) := k1
  have hrun : (execOp a'.eval o).run P w.drew = .ok .skip { w.drew with heap := w.drew.heap.setIfInBounds bm (.map (ens.push { key := .string ⟨s.toArray⟩, val := .int .i64 i, born := clock }) (clock + 1)) } := by
    simp only [execOp, ho, e1, e3, R.inv_str h2]
    simp [Instr.mapUpdate, run_underlying hu, MapKept.run_getObj_map k1', MapKept.run_checkKey hu2 (show MapKept.IsKey .string (.string ⟨s.toArray⟩) from trivial) _ 9999, MapKept.run_findKey hu2 hr, MapKept.run_setObj_map _ k1', Result.andThen]
  unfold Oper.wp
  rw [show ({ w with drawn := w.drawn + 1 } : World) = w.drew from rfl, hrun]
  refine hK _ _ (wpList_nil ⟨s1, m, cn, es ++ [(s, i)], hq, ?_, ?_, ?_, q3⟩)
  · rw [h.1]; exact q1
  · rw [hd]; exact q2
  · rw [hd]; exact hd'
end
end Go.Ev

namespace Go.Ev
open Go
section
variable {P : Program} {X : Ctx} {T : Nat → Option TI} {bm : Nat} {es : ES} {st s1 : St} {o : Oper} {ops : Array Oper}

theorem MK.at {w : World} {ob : List Ob} {m : Mp} {cn : Nat → Cnt} (h : MK X bm es) (hi : Inv X w ob m cn) : isMap w bm es := by
  obtain ⟨h1, h2, ens, clock, h3, h4⟩ := h
  exact ⟨ens, clock, by rw [hi.kept bm h1 h2]; exact h3, h4⟩

/-- a key is looked up in the map that is being built -/
theorem RunsQ.lookR (hT : TOK P T) (hmk : MK X bm es) {l : List Oper} (hg : gd ops st o.guard = some true) {t kt et : Nat} {x y : Operand} {ti ki ei : TI} (ho : o.op = .lookup t x y true) (ht : T t = some ti) (hk : ti.kd = .map kt et) (hkt : T kt = some ki) (hks : ki.kd = .str)
    (het : T et = some ei) (hz : ei.zero = .int .i64 0) (hx : val st x = .raw (.map (some bm))) {s : List UInt8} (hy : val st y = .str s)
    (hk' : RunsQ P X ops l ⟨setD o.dst (.tup [.int .i64 ((lookM es s).getD 0), .bool (lookM es s).isSome]) st.tm, st.ob⟩ s1) : RunsQ P X ops (o :: l) st s1 := by
  refine RunsQ.value hg (fun w m cn a hi hs => ?_) hk'
  have h1 := val_ok hs x
  have h2 := val_ok hs y
  rw [hx] at h1
  rw [hy] at h2
  obtain ⟨_, d, _, _, hu, _, hd, _⟩ := TI.of hT ht
  obtain ⟨_, d2, _, _, hu2, _, hd2, _⟩ := TI.of hT hkt
  obtain ⟨ie, d3, z3, hi3, hu3, hz3, _, _, _, hzz, _⟩ := TI.of hT het
  rw [hk] at hd
  have := kd_map hd
  subst this
  rw [hks] at hd2
  have := kd_str hd2
  subst this
  rw [hz] at hzz
  have hzv := ofV_int hzz.symm
  subst hzv
  have e1 : a.eval x = .map (some bm) := by
    generalize a.eval x = u at h1
    cases h1; rfl
  refine ⟨.tuple #[.int .i64 ((lookM es s).getD 0), .bool (lookM es s).isSome], fun w' hw' => ?_, .tup (.lcons (.int _ _) (.lcons (.bool _) .lnil (fun _ => rfl)) (fun _ => rfl))⟩
  obtain ⟨ens, clock, he', h⟩ := hmk.at hw'.2
  obtain ⟨r, hr, hq⟩ := findNow_lookM s ens.toList es 0 h
  have hrun : (Instr.lookup t (.map (some bm)) (.string ⟨s.toArray⟩) true).run P w' = .ok (.tuple #[.int .i64 ((lookM es s).getD 0), .bool (lookM es s).isSome]) w' := by
    unfold Instr.lookup
    simp only [Sem.run_bind, run_underlying hu, Result.andThen_ok, MapKept.run_getObj_map he', MapKept.run_checkKey hu2 (show MapKept.IsKey .string (.string ⟨s.toArray⟩) from trivial) _ 9999, MapKept.run_findKey hu2 hr, Sem.run_pure]
    have hzr : (zeroValue et).run P w' = .ok (.int .i64 0) w' := by simp [zeroValue, typeInfo, hi3, hz3]
    cases hL : lookM es s with
    | none =>
      rw [hL] at hq
      cases r with
      | none => simp [hzr]
      | some p => simp at hq
    | some v =>
      rw [hL] at hq
      cases r with
      | none => simp at hq
      | some p => simp at hq; simp [hq]
  unfold Oper.quietAt
  have : (execOp a.eval o).run P w' = .ok (.value (.tuple #[.int .i64 ((lookM es s).getD 0), .bool (lookM es s).isSome])) w' := by
    simp [execOp, ho, e1, R.inv_str h2, hrun]
  rw [this]
  exact ⟨rfl, rfl⟩

def WLJ (P : Program) (X : Ctx) (bm : Nat) (ops : Array Oper) (l : List Oper) (st : St) (es : ES) (Q : Exit → St → ES → Prop) : Prop :=
  ∀ w m cn a, Inv X w st.ob m cn → Sl X w m cn st.tm a → a.defers = [] → JM X bm es w cn → wpList P ops (postJ X bm Q) l a w

theorem WLJ_lift {l : List Oper} {Q : Exit → St → ES → Prop} (h : ∀ X', X'.n0 = st.ob.length → MK X' bm es → WL P X' ops l st (fun e s => Q e s es)) : WLJ P X bm ops l st es Q := by
  intro w m cn a hi hs hd ⟨j1, j2, j3, j4, j5⟩
  obtain ⟨h1, h2⟩ := hi.hide []
  have hbw : bm < w.heap.size := Nat.lt_of_lt_of_le j1 hi.le
  have hmk : MK (ctxH X w m cn [] st.ob.length) bm es := ⟨hbw, fun ⟨id, _, hid⟩ => by rw [j5 id] at hid; omega, j4⟩
  have hs' : Sl (ctxH X w m cn [] st.ob.length) w m (cnH [] cn) st.tm a :=
    R.mono hs (Nat.le_refl _) (fun b hb hf => ⟨h2 b hb hf, rfl⟩) (fun _ _ => rfl) trivial (fun _ _ h => ⟨h, rfl⟩)
  have key : ∀ e a' w', post (ctxH X w m cn [] st.ob.length) (fun e s => Q e s es) e a' w' → postJ X bm Q e a' w' := by
    rintro e a' w' ⟨s, m', cn', hq, hi', hs2, hd2⟩
    obtain ⟨g1, g2, g3, g4⟩ := hi.unhide (L := []) (fun _ h => by cases h) hi'
    refine ⟨s, m', _, es, hq, g1, ?_, hd2, j1, j2, j3, ?_, fun id => ?_⟩
    · exact R.mono hs2 (Nat.le_refl _) (fun b hb hf => ⟨g2 b hf, rfl⟩) (fun _ _ => rfl) trivial (fun _ _ h => ⟨h, rfl⟩)
    · obtain ⟨ens, clock, k1, k2⟩ := j4
      exact ⟨ens, clock, by rw [hi'.kept bm hbw hmk.2.1]; exact k1, k2⟩
    · show cnU [] cn cn' id bm = 0
      unfold cnU
      rw [if_neg (by simp)]
      rcases Nat.eq_zero_or_pos (cn' id bm) with h0 | h0
      · exact h0
      · rcases (hi'.new id bm h0).2 with h | h
        · have : w.heap.size ≤ bm := h
          omega
        · exact absurd h hmk.2.1
  exact wpList_mono2 (fun a w h => key _ a w h) (fun e a w _ h => key e a w h) _ _ _ (h _ rfl hmk w m (cnH [] cn) a h1 hs' hd)

theorem wpList_op {R : Exit → Act → World → Prop} {x : V} {st' : St} {rest : List Oper} (h : OKo P X st o x st') (hg : gd ops st o.guard = some true) {w : World} {m : Mp} {cn : Nat → Cnt} {a : Act}
    (hi : Inv X w st.ob m cn) (hs : Sl X w m cn st.tm a) (hd : a.defers = [])
    (hk : ∀ w' m' cn' a', Inv X w' st'.ob m' cn' → Sl X w' m' cn' (setD o.dst x st'.tm) a' → a'.defers = [] → wpList P ops R rest a' w') : wpList P ops R (o :: rest) a w := by
  obtain ⟨nx, u, w', m', cn', hrun, hnx, hi', hs', hR⟩ := h w m cn a hi hs
  refine wpList_step fun K hK => ?_
  rw [gd_ok hs hg, if_pos rfl]
  have hs2 : Sl X w' m' cn' (setD o.dst x st'.tm) (a.put o.dst u) := by
    have := hs'.set o.dst hR
    cases ho : o.dst <;> simpa [setD, ho] using this
  have hd2 : (a.put o.dst u).defers = [] := by cases ho : o.dst <;> simpa [Act.put] using hd
  unfold Oper.wp
  rw [hrun]
  rcases hnx with rfl | ⟨rfl, rfl⟩
  · exact hK _ _ (hk w' m' cn' _ hi' hs2 hd2)
  · exact hK _ _ (hk w' m' cn' _ hi' hs2 hd2)

theorem R_one {w : World} {fr : Nat → Prop} {m : Mp} {v : V} {u : Value} (h : R w fr m (.one v u) z0) : ∀ {us : List Value} {t : Nat}, us[t]? = some u → R w fr m (.list ((List.replicate us.length .junk).set t v) us) z0
  | [], t, ht => by simp at ht
  | u' :: us, 0, ht => by
    simp at ht
    subst ht
    have : ∀ us : List Value, R w fr m (.list (List.replicate us.length .junk) us) z0 := by
      intro us
      induction us with
      | nil => exact .lnil
      | cons u us ih => exact .lcons .junk ih (fun _ => rfl)
    exact .lcons h (this us) (fun _ => rfl)
  | u' :: us, t + 1, ht => .lcons .junk (R_one h (us := us) (t := t) (by simpa using ht)) (fun _ => rfl)

/-- a map is made; from then on it is built. Nothing else is the activation's yet. -/
theorem W_makeMap {id : Nat} {y : Code} {Qj : Nat → Exit → St → ES → Prop} (hX : X.n0 = 0) {o0 : Oper} {x0 : V} {l : List Oper} {t d : Nat} {F : ES} {x : V} {t2 : Nat}
    (hl : ops.toList = o0 :: o :: l) (h0 : ∀ X : Ctx, X.n0 = 0 → OKo P X st o0 x0 st) (hg0 : gd ops st o0.guard = some true) (hs1 : s1 = ⟨setD o0.dst x0 st.tm, st.ob⟩)
    (hg : gd ops s1 o.guard = some true) (ho : o.op = .makeMap t none) (hd : o.dst = some d) (hob : st.ob = []) (hxf : x.fz = x) (hxc : x.cells = [x])
    (h : ∀ X1 bm, X1.n0 = 0 → WLJ P X1 bm ops l ⟨s1.tm.set d (.raw (.map (some bm))), []⟩ [] (fun e s es => e = .normal ∧ WJ P X1 bm y s es (Qj bm)))
    (hQ : ∀ bm e s es, Qj bm e s es → (e = .ret ∨ e = .normal) ∧ s.ob[0]? = some (some (2, [.agg [x, .raw (.map (some bm))]])) ∧ s.tm[t2]? = some (.ptr 0 0 0) ∧ s.tm.length = st.tm.length ∧ es = F) :
    W P X (.seq (.region id ops false) y) st (fun e s => (e = .ret ∨ e = .normal) ∧ s = ⟨(List.replicate st.tm.length .junk).set t2 (.fp [x, .fmap F]), []⟩) := by
  intro w m cn a hi hs hdf
  refine wp_seq (wp_region_list ?_)
  rw [hl]
  refine wpList_op (h0 X hX) hg0 hi hs hdf fun w m cn a hi hs hdf => ?_
  rw [hob] at hi
  refine wpList_step fun K hK => ?_
  rw [gd_ok (st := s1) (by rw [hs1]; exact hs) hg, if_pos rfl]
  have hrun : (execOp a.eval o).run P w = .ok (.value (.map (some w.heap.size))) (w.alloc (.map #[] 0)) := by
    simp [execOp, ho, Instr.makeMap, Result.andThen]
  unfold Oper.wp
  rw [hrun]
  obtain ⟨g1, g2⟩ := MapKept.heap_alloc w (.map #[] 0)
  have gsz : (w.alloc (.map #[] 0)).heap.size = w.heap.size + 1 := by
    show (w.heap.push _).size = _
    simp
  let X1 : Ctx := ⟨w.alloc (.map #[] 0), fun b => b < w.heap.size ∧ frz X cn b, fun b => b = w.heap.size, noIds, 0⟩
  have hmn : ∀ id, m id = none := fun id => hi.fresh id (Nat.zero_le _)
  have hi1 : Inv X1 (w.alloc (.map #[] 0)) [] noIds (fun _ => z0) :=
    ⟨Nat.le_refl _, fun _ _ _ => rfl, rfl, rfl, rfl, fun i o ho => by simp at ho, fun b i j h => absurd h (by simp [z0]), fun i b => by simp [z0], fun i b h => absurd h (by simp [z0]), fun i h => rfl, fun i h => rfl, fun i x h => by simp [noIds] at h, Nat.le_refl _, fun _ _ => rfl⟩
  have hs2 : Sl X1 (w.alloc (.map #[] 0)) noIds (fun _ => z0) s1.tm a := by
    rw [hs1]
    exact R.mono hs (by rw [gsz]; omega) (fun b hb hf => ⟨⟨.inl ⟨hb, hf⟩, fun _ => rfl⟩, g2 b hb⟩) (fun b hb => absurd hb (by simp [z0])) trivial (fun id x hx => by rw [hmn id] at hx; cases hx)
  have hs3 : Sl X1 (w.alloc (.map #[] 0)) noIds (fun _ => z0) (s1.tm.set d (.raw (.map (some w.heap.size)))) (a.put o.dst (.map (some w.heap.size))) := by
    have := hs2.set o.dst (x := .raw (.map (some w.heap.size))) (u := .map (some w.heap.size)) (.raw _ rfl)
    rw [hd] at this ⊢
    simpa [setD] using this
  have hj : JM X1 w.heap.size [] (w.alloc (.map #[] 0)) (fun _ => z0) :=
    ⟨by show _ < (w.alloc _).heap.size; rw [gsz]; omega, rfl, fun h => by have := h.1; omega, ⟨#[], 0, g1, rfl⟩, fun _ => rfl⟩
  have hd3 : (a.put o.dst (.map (some w.heap.size))).defers = [] := put_defers _ _ hdf
  have hfin : ∀ e a' w', postJ X1 w.heap.size (Qj w.heap.size) e a' w' → post X (fun e s => (e = .ret ∨ e = .normal) ∧ s = ⟨(List.replicate st.tm.length .junk).set t2 (.fp [x, .fmap F]), []⟩) e a' w' := by
    rintro e a' w' ⟨s, m', cn', es', hq, hi', hs', hd', ⟨_, _, _, ⟨ens, clock, k1, k2⟩, _⟩⟩
    obtain ⟨he, hob0, ht2, hlen, rfl⟩ := hQ _ _ _ _ hq
    have hle1 : X.w0.heap.size ≤ w.heap.size := hi.le
    have hle2 : w.heap.size + 1 ≤ w'.heap.size := by have := hi'.le; rw [← gsz]; exact this
    have hfz1 : ∀ b, b < w'.heap.size → frz X1 cn' b → frz X (fun _ => z0) b := by
      rintro b _ ⟨h1, _⟩
      refine ⟨?_, fun _ => rfl⟩
      rcases h1 with h1 | h1
      · exact h1.2.1
      · have : (w.alloc (.map #[] 0)).heap.size ≤ b := h1
        rw [gsz] at this
        exact .inr (by omega)
    have hinv : Inv X w' [] noIds (fun _ => z0) := by
      refine ⟨by omega, fun b hb hn => ?_, hi'.os.trans hi.os, hi'.tape.trans hi.tape, hi'.output.trans hi.output, fun i o ho => by simp at ho, fun b i j h => absurd h (by simp [z0]), fun i b => by simp [z0], fun i b h => absurd h (by simp [z0]), fun i h => rfl, fun i h => by rw [hX] at h; omega, fun i x h => by simp [noIds] at h, by rw [hX]; exact Nat.zero_le _, fun b hb => ?_⟩
      · rw [hi'.kept b (by show b < (w.alloc _).heap.size; rw [gsz]; omega) (fun e => by have e : b = w.heap.size := e; omega)]
        show (w.alloc _).heap[b]? = _
        rw [g2 b (by omega)]
        exact hi.kept b hb hn
      · rw [hi'.shp b (by show b < (w.alloc _).heap.size; rw [gsz]; omega)]
        show (w.alloc _).shape? b = _
        rw [← hi.shp b hb]
        simp only [World.shape?, g2 b (Nat.lt_of_lt_of_le hb hi.le)]
    obtain ⟨u, hu, hR⟩ := Sl.get hs' ht2
    refine ⟨_, noIds, fun _ => z0, ⟨he, rfl⟩, hinv, ?_, hd'⟩
    have hlen2 : a'.tmps.toList.length = st.tm.length := by rw [← hlen]; exact R.len hs'
    show R w' (frz X (fun _ => z0)) noIds (.list ((List.replicate st.tm.length .junk).set t2 (.fp [x, .fmap es'])) a'.tmps.toList) z0
    rw [← hlen2]
    refine R_one (u := u) ?_ (by simpa using hu)
    generalize hz : z0 = zz at hR
    cases hR with
    | @ptr _ _ _ _ b k hmb =>
      obtain ⟨rfl, cur, e0, c, q1, q2, q3, q4, q5⟩ := hi'.object hob0 hmb
      have hbl : b < w'.heap.size := (Array.getElem?_eq_some_iff.1 q1).1
      have hnew : ∀ z, 0 < cn' 0 z → frz X (fun _ => z0) z := fun z hzz => by
        refine ⟨.inr ?_, fun _ => rfl⟩
        rcases (hi'.new 0 z hzz).2 with h | h
        · have : (w.alloc (.map #[] 0)).heap.size ≤ z := h
          rw [gsz] at this; omega
        · have : z = w.heap.size := h
          omega
      have hcells := R.fz (fr' := frz X (fun _ => z0)) hfz1 q4 (fun z _ hcz => hnew z (by rw [q5]; omega)) noIds
      have hflat : fzL (flat [.agg [x, .raw (.map (some w.heap.size))]]) = [x, .raw (.map (some w.heap.size))] := by
        simp [flat, V.cells, fzL, hxf, V.fz]
      have hcells : R w' (frz X (fun _ => z0)) noIds (.cells b 0 [x, .raw (.map (some w.heap.size))]) z0 := by rw [← hflat]; exact hcells
      have hml : w.heap.size < w'.heap.size := by omega
      have hmf : frz X (fun _ => z0) w.heap.size := ⟨.inr hle1, fun _ => rfl⟩
      show R w' (frz X (fun _ => z0)) noIds (.one (.fp [x, .fmap es']) (.pointer (some ⟨b, 0 * 2 + 0, none⟩))) z0
      refine .fp hbl (hnew b (by rw [q5]; simp)) ?_
      obtain ⟨zz, hcells, e⟩ : ∃ zz, R w' (frz X (fun _ => z0)) noIds (.cells b 0 [x, .raw (.map (some w.heap.size))]) zz ∧ ∀ z, zz z = 0 := ⟨z0, hcells, fun _ => rfl⟩
      cases hcells with
      | ccons hc h1c h1 h2 he =>
        cases h2 with
        | ccons hc' h1c' h1' h2' he' =>
          have e1 := h1.zero fun z => by have := he z; rw [e] at this; omega
          generalize hyy : V.raw (.map (some w.heap.size)) = yy at h1'
          cases h1' with
          | raw u hu =>
            cases hyy
            exact .ccons hc h1c e1 (.ccons hc' h1c' (.fmap hml hmf k1 k2) .cnil (fun _ => rfl)) (fun _ => by simp [z0])
          | _ => cases hyy
  refine hK _ _ (wpList_mono2 ?_ ?_ _ _ _ (h X1 w.heap.size rfl _ _ _ _ hi1 hs3 hd3 hj))
  · rintro a' w' ⟨s, m', cn', es', ⟨_, hw⟩, hi', hs', hd', hj'⟩
    exact Code.wp_mono hfin (hw w' m' cn' a' hi' hs' hd' hj')
  · rintro e a' w' hne ⟨s, m', cn', es', ⟨he, _⟩, _⟩
    exact absurd he hne
end
end Go.Ev
namespace Go.Ev
open Go
section
variable {P : Program} {X : Ctx} {T : Nat → Option TI} {bm : Nat} {es : ES} {st s1 : St} {o : Oper} {ops : Array Oper} {l : List Oper}

theorem WL_runsK {Q : Exit → St → Prop} (ks : List Nat) (h : Runs P X ops l st s1) (hq : Q .normal (s1.keep ks)) : WL P X ops l st Q := by
  have := h [] Q (WL_le (Le.keep ks s1) (WL_nil hq))
  rwa [List.append_nil] at this
theorem W_regK {id : Nat} {Q : Exit → St → Prop} (ks : List Nat) (h : Runs P X ops ops.toList st s1) (hq : Q .normal (s1.keep ks)) : W P X (.region id ops false) st Q := W_region (WL_runsK ks h hq)
theorem W_regKT {id : Nat} {Q : Exit → St → Prop} (ks : List Nat) (n : Nat) (h : Runs P X ops ops.toList st s1) (h1 : X.n0 ≤ n) (h2 : n ≤ (s1.keep ks).ob.length) (hq : Q .normal ((s1.keep ks).trim n)) : W P X (.region id ops false) st Q := by
  refine W_region ?_
  have := h [] Q (WL_le (Le.trans (Le.keep ks s1) (Le.trim n h1 _ h2)) (WL_nil hq))
  rwa [List.append_nil] at this
theorem W_drawnK {id : Nat} {Q : Exit → St → Prop} (ks : List Nat) (hm : P.follows .mixedOrders = true) (hB : Region.lexB .any ops = true) (h : RunsQ P X ops ops.toList st s1) (hq : Q .normal (s1.keep ks)) : W P X (.region id ops true) st Q := by
  intro w m cn a hi hs hd
  refine Code.wp_mono ?_ (W_drawn (Q := fun e s => e = .normal ∧ s = s1) hm hB h ⟨rfl, rfl⟩ w m cn a hi hs hd)
  rintro e a' w' ⟨s, m', cn', ⟨rfl, rfl⟩, hi', hs', hd'⟩
  obtain ⟨m2, cn2, h1, h2⟩ := Le.keep ks s w' m' cn' a' hi' hs'
  exact ⟨_, m2, cn2, hq, h1, h2, hd'⟩

theorem WJ_cond {Q : Exit → St → ES → Prop} {c : Operand} {x y : Code} {t : Bool} (hc : val st c = .bool t) (h1 : t = true → WJ P X bm x st es Q) (h2 : t = false → WJ P X bm y st es Q) :
    WJ P X bm (.cond c x y) st es Q := by
  intro w m cn a hi hs hd hj
  have hR := val_ok hs c
  rw [hc] at hR
  have he : a.eval c = .bool t := by
    generalize a.eval c = u at hR
    cases hR
    rfl
  exact wp_cond_split he (fun ht => h1 ht w m cn a hi hs hd hj) (fun ht => h2 ht w m cn a hi hs hd hj)

theorem WJ_trimK {Q : Exit → St → ES → Prop} {c : Code} {st' : St} (n : Nat) (hn0 : X.n0 ≤ n) (hn : n ≤ st.ob.length) (he : st.trim n = st') (h : WJ P X bm c st' es Q) : WJ P X bm c st es Q := by
  subst he
  intro w m cn a hi hs hd hj
  have h1 := hi.jk (fun id => decide (n ≤ id))
  have h2 := h1.trim (n := n) hn0 (by simpa using hn) (fun o ho => by
    rw [← List.map_take] at ho
    obtain ⟨o', _, rfl⟩ := List.mem_map.1 ho
    cases o' with
    | none => rfl
    | some p => exact jkL_lim n p.2)
  rw [← List.map_take] at h2
  exact h w _ cn a h2 (R.jk (p := fun id => decide (n ≤ id)) (fun id h => if_pos (by simpa using h)) hs) hd hj
theorem W_mono2 {c : Code} {Q Q' : Exit → St → Prop} (h : W P X c st Q) (hq : ∀ e s, Q e s → Q' e s) : W P X c st Q' := by
  intro w m cn a hi hs hd
  refine Code.wp_mono ?_ (h w m cn a hi hs hd)
  rintro e a' w' ⟨s, m', cn', hq', r⟩
  exact ⟨s, m', cn', hq _ _ hq', r⟩
end
end Go.Ev
/-! A list inside an object gets an object of its own. -/
namespace Go.Ev
open Go

section
variable {X : Ctx} {w : World} {ob : List Ob} {m : Mp} {cn : Nat → Cnt}

theorem Inv.carve (hi : Inv X w ob m cn) {p kp k b : Nat} {xs xs' ys : List V} {cur : Array Value} {el : TypeId} {c d : Cnt} (hp : ob[p]? = some (some (kp, xs)))
    (hb : w.heap[b]? = some (.cells cur el (0, 0))) (hk : uni k ys) (hl : ys.length * k ≤ cur.size) (hR : R w (frz X cn) noIds (.cells b 0 (flat ys)) c)
    (hc : ∀ x, d x = c x + if x = b then 1 else 0) (hd : ∀ x, d x ≤ cn p x)
    (hnew : ∀ m' cn', Ext X w m cn w m' cn' → m' ob.length = some (b, k) → m' p = m p → obOK w (frz X cn') m' (fun z => cn p z - d z) p (some (kp, xs'))) :
    Inv X w (ob.set p (some (kp, xs')) ++ [some (k, ys)]) (upd m ob.length (some (b, k))) (upd (upd cn p (fun x => cn p x - d x)) ob.length d) ∧
      Ext X w m cn w (upd m ob.length (some (b, k))) (upd (upd cn p (fun x => cn p x - d x)) ob.length d) := by
  have hplt := (List.getElem?_eq_some_iff.1 hp).1
  have hNe : ob.length ≠ p := by omega
  have e1 : (upd (upd cn p (fun x => cn p x - d x)) ob.length d) ob.length = d := upd_same _ _ _
  have e2 : (upd (upd cn p (fun x => cn p x - d x)) ob.length d) p = fun x => cn p x - d x := by rw [upd_other _ _ (Ne.symm hNe), upd_same]
  have e3 : ∀ i, i ≠ ob.length → i ≠ p → (upd (upd cn p (fun x => cn p x - d x)) ob.length d) i = cn i := fun i h1 h2 => by rw [upd_other _ _ h1, upd_other _ _ h2]
  generalize hcn : upd (upd cn p (fun x => cn p x - d x)) ob.length d = cn' at *
  have hpos : ∀ i x, 0 < cn' i x → (i = ob.length ∧ 0 < d x ∧ 0 < cn p x) ∨ (i ≠ ob.length ∧ 0 < cn i x ∧ (i = p → d x = 0)) := by
    intro i x h
    by_cases h1 : i = ob.length
    · subst h1; rw [e1] at h; exact .inl ⟨rfl, h, by have := hd x; omega⟩
    · by_cases h2 : i = p
      · subst h2
        rw [e2] at h
        have h : 0 < cn i x - d x := h
        have := hi.one i x
        exact .inr ⟨h1, by omega, fun _ => by omega⟩
      · rw [e3 i h1 h2] at h; exact .inr ⟨h1, h, fun h3 => absurd h3 h2⟩
  have hext : Ext X w m cn w (upd m ob.length (some (b, k))) cn' := by
    refine ⟨Nat.le_refl _, fun x hx hf => ⟨⟨hf.1, fun i => ?_⟩, rfl⟩, fun id x h => ⟨?_, rfl⟩⟩
    · rcases Nat.eq_zero_or_pos (cn' i x) with h | h
      · exact h
      · rcases hpos i x h with ⟨_, _, h3⟩ | ⟨_, h3, _⟩
        · have := hf.2 p; omega
        · have := hf.2 i; omega
    · have := hi.lt_of_map h
      rw [upd_other _ _ (by omega)]; exact h
  have hdb : 0 < d b := by rw [hc]; simp
  refine ⟨⟨hi.le, hi.kept, hi.os, hi.tape, hi.output, fun i o ho => ?_, fun x i j h1 h2 => ?_, fun i x => ?_, fun i x h => ?_, fun i h => ?_, fun i h => ?_, fun i x h => ?_, by simp; have := hi.n0; omega, hi.shp⟩, hext⟩
  · by_cases hid : i < ob.length
    · rw [List.getElem?_append_left (by simpa using hid)] at ho
      by_cases hip : i = p
      · subst hip
        rw [List.getElem?_set_self hplt] at ho
        cases ho
        rw [e2]
        exact hnew _ _ hext (upd_same _ _ _) (upd_other _ _ (by omega))
      · rw [List.getElem?_set_ne (Ne.symm hip)] at ho
        exact (hi.obj i o ho).ext hext (e3 i (by omega) hip) (upd_other _ _ (by omega)) (fun _ _ => rfl)
    · have : i = ob.length := by
        have := (List.getElem?_eq_some_iff.1 ho).1
        simp at this; omega
      subst this
      simp at ho
      subst ho
      refine .inr ⟨b, cur, el, c, upd_same _ _ _, hb, hk, hl, ?_, fun x => by rw [e1]; exact hc x⟩
      exact hR.mono (Nat.le_refl _) hext.fr (fun _ _ => rfl) (.inr rfl) (fun id x h => by simp [noIds] at h)
  · rcases hpos i x h1 with ⟨rfl, a1, a2⟩ | ⟨a0, a1, a2⟩ <;> rcases hpos j x h2 with ⟨rfl, b1, b2⟩ | ⟨b0, b1, b2⟩
    · rfl
    · have := hi.dis x p j a2 b1; have := b2 this.symm; omega
    · have := hi.dis x p i b2 a1; have := a2 this.symm; omega
    · exact hi.dis x i j a1 b1
  · by_cases h1 : i = ob.length
    · subst h1; rw [e1]; have := hd x; have := hi.one p x; omega
    · by_cases h2 : i = p
      · subst h2; rw [e2]; have := hi.one i x; show cn i x - d x ≤ 1; omega
      · rw [e3 i h1 h2]; exact hi.one i x
  · rcases hpos i x h with ⟨_, _, h3⟩ | ⟨_, h3, _⟩
    · exact hi.new p x h3
    · exact hi.new i x h3
  · simp at h
    rw [upd_other _ _ (by omega)]
    exact hi.fresh i (by omega)
  · rw [upd_other _ _ (by have := hi.n0; omega)]; exact hi.pas i h
  · by_cases hid : i = ob.length
    · subst hid
      rw [upd_same] at h
      cases h
      exact (Array.getElem?_eq_some_iff.1 hb).1
    · rw [upd_other _ _ hid] at h; exact hi.mlt i x h

/-- the list in cell j of element e of the object p gets an object of its own -/
def St.expose (p e j : Nat) (s : St) : Option St :=
  match s.ob[p]? with
  | some (some (kp, xs)) => match (xs.getD e .junk).cells[j]? with
    | some (.lst true k ys) => if e < xs.length then
        some ⟨s.tm, s.ob.set p (some (kp, xs.set e (setC (xs.getD e .junk) j [.arr s.ob.length 0 ys.length]))) ++ [some (k, ys)]⟩ else none
    | _ => none
  | _ => none

theorem Le.expose (p e j : Nat) {s s' : St} (h : s.expose p e j = some s') : Le X s s' := by
  unfold St.expose at h
  split at h
  · rename_i kp xs hp
    split at h
    · rename_i k ys hcell
      split at h
      · rename_i he
        cases h
        intro w m cn a hi hs
        have hplt := (List.getElem?_eq_some_iff.1 hp).1
        obtain ⟨b, hm⟩ : ∃ b, m p = some (b, kp) := by
          rcases hi.obj p _ hp with ⟨h0, _, _⟩ | ⟨b, _, _, _, h1, _⟩
          · rw [h0] at he; simp at he
          · exact ⟨b, h1⟩
        obtain ⟨_, cur, el, c, hb, hk, hl, hR, hcn⟩ := hi.object hp hm
        have hE := uni_at hk he
        have hjl : j < (xs.getD e .junk).cells.length := (List.getElem?_eq_some_iff.1 hcell).1
        have hvc : okCells [V.arr s.ob.length 0 ys.length] = true := by simp [okCells, V.cellOK]
        have hcells := setC_cells (e := xs.getD e .junk) (j := j) (vc := [V.arr s.ob.length 0 ys.length]) (by show j + 1 ≤ _; omega) hvc (by simp)
        have hflat := flat_set hk he hcells (by show j + 1 ≤ _; omega)
        have hk2 : uni kp (xs.set e (setC (xs.getD e .junk) j [V.arr s.ob.length 0 ys.length])) := by
          intro x hx
          rcases List.mem_or_eq_of_mem_set hx with h | h
          · exact hk x h
          · rw [h, hcells, List.length_append, List.length_append, List.length_take, List.length_drop]; show min j _ + 1 + (_ - (j + 1)) = _; omega
        have hfl := flat_length hk
        have hq : e * kp + j < (flat xs).length := by
          rw [hfl]
          have : (e + 1) * kp ≤ xs.length * kp := Nat.mul_le_mul_right kp he
          rw [Nat.add_mul] at this; omega
        have hat : (flat xs)[e * kp + j]? = some (.lst true k ys) := by
          rw [flat_at he, List.append_assoc, List.getElem?_append_right (by rw [flat_take_length hk (Nat.le_of_lt he)]; omega), flat_take_length hk (Nat.le_of_lt he),
            show e * kp + j - e * kp = j from by omega, List.getElem?_append_left hjl]
          exact hcell
        have hsp : flat xs = (flat xs).take (e * kp + j) ++ ([V.lst true k ys] ++ (flat xs).drop (e * kp + j + 1)) := by
          conv => lhs; rw [← List.take_append_drop (e * kp + j) (flat xs)]
          rw [List.drop_eq_getElem_cons hq]
          have : (flat xs)[e * kp + j] = .lst true k ys := by
            have := List.getElem?_eq_getElem hq
            rw [hat] at this
            exact (Option.some.inj this).symm
          rw [this]; rfl
        have hAl : ((flat xs).take (e * kp + j)).length = e * kp + j := by rw [List.length_take]; omega
        have hRs := hR
        rw [hsp] at hRs
        obtain ⟨d1, d2, hA, hBC, hd12⟩ := R.split hRs
        rw [hAl, Nat.zero_add] at hBC
        have close : ∀ {m' : Mp} {cn' : Nat → Cnt} {cB cC : Cnt} {u : Value}, Ext X w m cn w m' cn' → m' p = m p → w.cell? ⟨b, e * kp + j, none⟩ = some u → u.oneCell' = true → R w (frz X cn) m (.cells b (e * kp + j + 1) ((flat xs).drop (e * kp + j + 1))) cC →
            (∀ y, d2 y = cB y + cC y) → R w (frz X cn') m' (.one (.arr s.ob.length 0 ys.length) u) z0 → obOK w (frz X cn') m' (fun z => cn p z - cB z) p (some (kp, xs.set e (setC (xs.getD e .junk) j [V.arr s.ob.length 0 ys.length]))) := by
          intro m' cn' cB cC u hx hm' hcu hone hC hd2 hu
          refine .inr ⟨b, cur, el, fun z => d1 z + cC z, by rw [hm']; exact hm, hb, hk2, by rw [List.length_set]; exact hl, ?_, fun z => ?_⟩
          · rw [hflat, List.append_assoc]
            refine R.join (c1 := d1) (c2 := cC) (hA.mono (Nat.le_refl _) hx.fr (fun _ _ => rfl) (.inr rfl) hx.mp) ?_
            rw [hAl, Nat.zero_add]
            exact .ccons hcu hone hu (hC.mono (Nat.le_refl _) hx.fr (fun _ _ => rfl) (.inr rfl) hx.mp) (fun z => by simp [z0])
          · have q1 := hcn z
            have q2 := hd12 z
            have q3 := hd2 z
            show cn p z - cB z = d1 z + cC z + (if z = b then 1 else 0)
            have q4 := hi.one p z
            by_cases hz : z = b
            · rw [if_pos hz] at q1 ⊢; omega
            · rw [if_neg hz] at q1 ⊢; omega
        generalize hzz : d2 = d2' at hBC
        cases hBC with
        | @ccons _ _ _ _ _ u cB cC _ hcu hone hB hC hd2 =>
          cases hB with
          | nil | nilz =>
            obtain ⟨hn1, hn2⟩ := hi.nameNil k
            have hset := hn1
            -- the empty list
            have hfin : obOK w (frz X (upd cn s.ob.length fun _ => 0)) m (cn p) p (some (kp, xs.set e (setC (xs.getD e .junk) j [V.arr s.ob.length 0 0]))) := by
              have := close (cB := fun _ => 0) hn2 rfl hcu hone hC (fun y => by rw [hzz]; exact hd2 y) .arrn
              simpa using this
            refine ⟨m, _, ?_, hn2.Sl hs⟩
            have hpne : p ≠ s.ob.length := by omega
            refine ⟨hn1.le, hn1.kept, hn1.os, hn1.tape, hn1.output, fun i o ho => ?_, hn1.dis, hn1.one, hn1.new, fun i h => hn1.fresh i (by simp at h ⊢; omega), hn1.pas, hn1.mlt, by have := hn1.n0; simp at this ⊢; omega, hn1.shp⟩
            by_cases hip : i = p
            · subst hip
              rw [List.getElem?_append_left (by simpa using hplt), List.getElem?_set_self hplt] at ho
              cases ho
              rw [upd_other _ _ hpne]
              exact hfin
            · refine hn1.obj i o ?_
              by_cases hil : i < s.ob.length
              · rw [List.getElem?_append_left (by simpa using hil), List.getElem?_set_ne (Ne.symm hip)] at ho
                rw [List.getElem?_append_left hil]; exact ho
              · rw [List.getElem?_append_right (by simpa using Nat.le_of_not_lt hil)] at ho
                rw [List.getElem?_append_right (Nat.le_of_not_lt hil)]
                simpa using ho
          | @own _ _ _ b' cap cur' e' c0 _ hb' hs' hk' hn' hR' hc' =>
            have hcB : ∀ z, cB z ≤ cn p z := fun z => by
              have q1 := hcn z
              have q2 := hd12 z
              have q3 := hd2 z
              rw [hzz] at q2
              omega
            have hle : ys.length * k ≤ cur'.size := Nat.le_trans (Nat.mul_le_mul_right k hn') hs'
            have hbne : b' ≠ b := by
              intro hbb
              have q1 := hcn b'
              have q2 := hd12 b'
              have q3 := hd2 b'
              have q4 := hc' b'
              have q5 := hi.one p b'
              rw [if_pos hbb] at q1
              rw [if_pos rfl] at q4
              rw [hzz] at q2
              omega
            have hcv := hi.carve (p := p) (kp := kp) (xs' := xs.set e (setC (xs.getD e .junk) j [V.arr s.ob.length 0 ys.length])) hp hb' hk' hle hR' hc' hcB (fun m' cn' hx hmN hmp =>
              close hx hmp hcu hone hC (fun y => by rw [hzz]; exact hd2 y) (by
                have hsh : w.shape? b' = some (e', cur'.size) := by simp [World.shape?, hb']
                have := R.arr (w := w) (fr := frz X cn') (m := m') (id := s.ob.length) (o := 0) (n := ys.length) (b := b') (k := k) (cap := cap) hmN hsh hn' (by simpa using hs')
                simpa using this))
            exact ⟨_, _, hcv.1, hcv.2.Sl hs⟩
      · cases h
    · cases h
  · cases h
end
end Go.Ev
