/- Part 6 of what the proofs lean on: an evaluator of Go functions over abstract values. Conditions: none. -/
import Derived.Test.YtebbhmbngfpkaaaGreatK04
import Derived.RangeFuncLeaves
set_option linter.all false
set_option linter.unusedVariables false
set_option linter.unusedSimpArgs false
set_option maxHeartbeats 2000000
set_option maxRecDepth 100000
/-! The rule for a range over slices.Backward of a frozen list of texts. -/
namespace Go.Ev
open Go

section
variable {P : Program} {X : Ctx} {w w' : World} {m : Mp} {cn : Nat → Cnt} {ob : List Ob} {tm : List V} {a : Act}

theorem alloc_old {w : World} {o : Obj} {k : Nat} (h : k < w.heap.size) : (w.alloc o).heap[k]? = w.heap[k]? := (MapKept.heap_alloc w o).2 k h
theorem cell_eq {A B : World} {p : Addr} (h : B.heap[p.block]? = A.heap[p.block]?) : B.cell? p = A.cell? p := by simp [World.cell?, h]

theorem cells_str {fr : Nat → Prop} {m : Mp} {b : Nat} : ∀ {xs : List (List UInt8)} {off : Nat} {c : Cnt}, R w fr m (.cells b off (flat (xs.map V.str))) c → ∀ j (h : j < xs.length), w.cell? ⟨b, off + j, none⟩ = some (.string ⟨(xs[j]).toArray⟩)
  | [], _, _, _, j, h => by simp at h
  | x :: xs, off, c, hR, j, h => by
    rw [List.map_cons, flat_cons] at hR
    have hR : R w fr m (.cells b off (V.str x :: flat (xs.map V.str))) c := hR
    cases hR with
    | ccons hc h1c h1 h2 he =>
      cases j with
      | zero => cases h1; exact hc
      | succ j =>
        have := cells_str h2 j (by simpa using h)
        rw [show off + (j + 1) = off + 1 + j from by omega]
        exact this

theorem clo_inv {fr : Nat → Prop} {gf : FuncId} {xs : List (List UInt8)} {u : Value} {c : Cnt} (h : R w fr m (.one (.clo (.func gf) [] [.fp [.lst false 1 (xs.map V.str)]]) u) c) :
    ∃ Bs bo, u = .func (.func gf) #[] #[.pointer (some ⟨Bs, bo, none⟩)] ∧ Bs < w.heap.size ∧ fr Bs ∧ ∃ ad cap, w.cell? ⟨Bs, bo, none⟩ = some (.slice ad xs.length cap) ∧
      ∃ b, b < w.heap.size ∧ fr b ∧ (xs.length = 0 ∨ ∃ off, ad = some ⟨b, off, none⟩ ∧ ∀ j (h : j < xs.length), w.cell? ⟨b, off + j, none⟩ = some (.string ⟨(xs[j]).toArray⟩)) := by
  cases h with
  | clo h1 h2 he =>
    cases h1
    cases h2 with
    | lcons h3 h4 he2 =>
      cases h4
      cases h3 with
      | fp hl hb h5 =>
        cases h5 with
        | ccons hc h1c h6 h7 he3 =>
          rename_i Bs bo u _ _
          refine ⟨Bs, bo, rfl, hl, hb, ?_⟩
          generalize hy : V.lst false 1 (xs.map V.str) = y at h6
          cases h6 with
          | nil =>
            have hx : xs.map V.str = [] := by injection hy
            have hx : xs = [] := by simpa using hx
            subst hx
            exact ⟨_, _, hc, Bs, hl, hb, .inl rfl⟩
          | nilz =>
            have hx : xs.map V.str = [] := by injection hy
            have hx : xs = [] := by simpa using hx
            subst hx
            exact ⟨_, _, hc, Bs, hl, hb, .inl rfl⟩
          | frz hl2 hb2 hk hn h8 =>
            injection hy with e1 e2 e3
            subst e2
            subst e3
            refine ⟨_, _, by rw [List.length_map] at hc; exact hc, _, hl2, hb2, .inr ⟨_, rfl, cells_str h8⟩⟩
          | _ => cases hy

/-- what a closure of slices.Backward does -/
def BackOK (P : Program) (gf : FuncId) : Prop :=
  ∀ (l Bs bo b len cap : Nat) (ad : Option Addr) (gv : Nat → Value) (J : Nat → World → Prop) (W : World), len ≤ 1099511627776 →
    W.cell? ⟨Bs, bo, none⟩ = some (.slice ad len cap) → (len = 0 ∨ ∃ off, ad = some ⟨b, off, none⟩ ∧ ∀ j, j < len → W.cell? ⟨b, off + j, none⟩ = some (gv j)) →
    (∀ k W, J k W → k < len → YieldAt Fence.wide 0 P l #[.int .i64 ((len : Int) - 1 - (k : Int)), gv (len - 1 - k)] W fun e W' =>
      e = .returned (.bool true) ∧ J (k + 1) W' ∧ W'.heap[Bs]? = W.heap[Bs]? ∧ W'.heap[b]? = W.heap[b]?) →
    J 0 W → CallsIn Fence.wide 1 P gf (#[.func (.yield l) #[] #[]] ++ #[.pointer (some ⟨Bs, bo, none⟩)]) W fun e W' => (∃ v, e = .returned v) ∧ J len W'

/-- the slots where a round's body begins -/
def tmR (tm : List V) (p1 p2 q : Tmp) (i : Int) (s : List UInt8) : List V :=
  let t := (tm.set p1 (.int .i64 i)).set p2 (.str s)
  t.set q (val ⟨t, []⟩ (.tmp p2))

theorem range_run {gf : FuncId} {g : Operand} {p1 p2 q : Tmp} {assign body : Code} {xs : List (List UInt8)} {fo : Nat → List Ob} {nn : Nat} {B : Exit → Act → World → Prop}
    (eg : ∀ args w, (callFunc gf args).run P w = .ok (.enter gf args) w) (hback : BackOK P gf)
    (hg : val ⟨tm, fo 0⟩ g = .clo (.func gf) [] [.fp [.lst false 1 (xs.map V.str)]]) (hxs : xs.length ≤ 1099511627776)
    (ha : ∀ (r : Nat) (W : World) (a0 : Act) (K : Act → World → Prop), K (a0.put (some q) (a0.eval (.tmp p2))) W → assign.wpIn (rfc r) 0 P (Exit.then K (fun _ _ _ => False)) a0 W)
    (hlim : limL nn tm = true) (hnn : ∀ k, nn ≤ (fo k).length) (hX : X.n0 ≤ nn)
    (hbody : ∀ (r k : Nat) (hk : k < xs.length) (X' : Ctx), X'.n0 = nn → WI P X' r body ⟨tmR tm p1 p2 q ((xs.length : Int) - 1 - (k : Int)) (xs[xs.length - 1 - k]'(by omega)), fo k⟩ (fun e s => e = .normal ∧ ∃ s', Le X' s s' ∧ s'.ob = fo (k + 1)))
    (hi : Inv X w (fo 0) m cn) (hs : Sl X w m cn tm a) (hd : a.defers = [])
    (hfin : ∀ (D : Nat) (X1 : Ctx) (W' : World) (m' : Mp) (cn' : Nat → Cnt), X1.n0 = nn → Inv X1 W' (fo xs.length) m' cn' → Sl X1 W' m' cn' tm a → JB X1 D (.deferred (some [])) W' cn' →
      (∀ w2 ob2 m2 cn2, Inv X1 w2 ob2 m2 cn2 → Inv X w2 ob2 m2 cn2 ∧ ∀ b, frz X1 cn2 b → frz X cn2 b) → B .normal { a with defers := [{ target := .collected D, args := #[] }] } W') :
    (Code.rangeFunc g #[p1, p2] assign body).wp P B a w := by
  refine wpIn_wide.1 (wpIn_rangeFunc (F := Fence.wide) (n := 2) fun fn _ => ?_)
  have hR := val_ok (st := ⟨tm, fo 0⟩) hs g
  rw [hg] at hR
  obtain ⟨Bs, bo, hge, hBl, hBf, ad, cap, hc, b, hbl, hbf, hel⟩ := clo_inv hR
  obtain ⟨rec, hrec⟩ : ∃ rec : LoopState → Loop, rec = fun st => { state := st, pending := none, fn, tmps := a.tmps, params := #[p1, p2], assign, body, defers := w.heap.size } := ⟨_, rfl⟩
  obtain ⟨W1, hW1⟩ : ∃ W1, (w.alloc (.deferred (some []))).alloc (.loop (rec .ready)) = W1 := ⟨_, rfl⟩
  have hsz : w.heap.size ≤ W1.heap.size := by rw [← hW1]; simp; omega
  have hsame : ∀ x, x < w.heap.size → W1.heap[x]? = w.heap[x]? := fun x hx => by
    rw [← hW1]; exact (alloc_old (by simp; omega)).trans (alloc_old hx)
  have hD1 : W1.heap[w.heap.size]? = some (.deferred (some [])) := by
    rw [← hW1]; exact (alloc_old (by simp)).trans (World.alloc_heap_new w _)
  have hL1 : W1.heap[w.heap.size + 1]? = some (.loop (rec .ready)) := by
    rw [← hW1]; have := World.alloc_heap_new (w.alloc (.deferred (some []))) (.loop (rec .ready)); rwa [World.size_alloc] at this
  obtain ⟨i1, s1, jb⟩ := hi.lay hs hsz hsame (hnn 0)
  have hback1 : ∀ w2 ob2 m2 cn2, Inv (ctxB X w W1 m cn nn) w2 ob2 m2 cn2 → Inv X w2 ob2 m2 cn2 ∧ ∀ b, frz (ctxB X w W1 m cn nn) cn2 b → frz X cn2 b :=
    fun w2 ob2 m2 cn2 h => hi.back hsz hsame (by rw [← hW1]; rfl) (by rw [← hW1]; rfl) (by rw [← hW1]; rfl) hX h
  have hX1 : (ctxB X w W1 m cn nn).n0 = nn := rfl
  have fB : frz (ctxB X w W1 m cn nn) cn Bs := ⟨.inl ⟨hBl, hBf⟩, hBf.2⟩
  have fb : frz (ctxB X w W1 m cn nn) cn b := ⟨.inl ⟨hbl, hbf⟩, hbf.2⟩
  have jD := jb _ _ (Nat.le_refl _) hD1 rfl
  have jL := jb (w.heap.size + 1) _ (by omega) hL1 rfl
  have hx0 : ∀ x, x < w.heap.size → x ≠ w.heap.size + 1 := fun x hx => by omega
  generalize ctxB X w W1 m cn nn = X1 at *
  refine ⟨w.heap.size + 1, [{ target := .collected w.heap.size, args := #[] }], W1, { target := .fn (.func gf) #[.pointer (some ⟨Bs, bo, none⟩)], args := #[.func (.yield (w.heap.size + 1)) #[] #[]] }, W1, gf,
    #[.func (.yield (w.heap.size + 1)) #[] #[]] ++ #[.pointer (some ⟨Bs, bo, none⟩)], W1, ?_, ?_, fun _ _ => trivial, ?_, fun h => by simp [Fence.wide] at h, ?_⟩
  · rw [← hW1, hrec]; exact run_enterLoop_outer _ _ _ _ _
  · simp only [resolve, hge]
    simp [go_sem]
  · simp [invoke, go_sem, eg]
  · refine (hback (w.heap.size + 1) Bs bo b xs.length cap ad (fun j => .string ⟨(xs.getD j []).toArray⟩)
      (fun k W => ∃ m' cn', Inv X1 W (fo k) m' cn' ∧ Sl X1 W m' cn' tm a ∧ JB X1 w.heap.size (.deferred (some [])) W cn' ∧ JB X1 (w.heap.size + 1) (.loop (rec .ready)) W cn' ∧ frz X1 cn' Bs ∧ frz X1 cn' b ∧ w.heap.size ≤ W.heap.size)
      W1 hxs ((cell_eq (hsame Bs hBl)).trans hc) ?_ ?_ ⟨m, cn, i1, s1, jD, jL, fB, fb, hsz⟩).mono ?_
    · rcases hel with h0 | ⟨off, e1, e2⟩
      · exact .inl h0
      · refine .inr ⟨off, e1, fun j hj => (cell_eq (hsame b hbl)).trans ?_⟩
        rw [e2 j hj]; simp [hj]
    · rintro k W ⟨m', cn', hi', hs', jD', jL', fB', fb', hsW⟩ hk
      have hl : W.heap[w.heap.size + 1]? = some (.loop (rec .ready)) := jL'.2.2.2.1
      have hlt : w.heap.size + 1 < W.heap.size := (Array.getElem?_eq_some_iff.1 hl).1
      have hgv : xs.getD (xs.length - 1 - k) [] = xs[xs.length - 1 - k]'(by omega) := by
        rw [List.getD_eq_getElem?_getD, List.getElem?_eq_getElem (by omega)]; rfl
      have hy := run_yield (P := P) (args := #[Value.int .i64 ((xs.length : Int) - 1 - (k : Int)), .string ⟨(xs.getD (xs.length - 1 - k) []).toArray⟩]) hl (by rw [hrec]; rfl)
      rw [hrec] at hy
      refine ⟨fn, _, assign, body, hy, roundIn_of_wpIn trivial (ha _ W _ _ ⟨_, run_beginRound hl (by rw [hrec]), ?_⟩)⟩
      obtain ⟨i2, s2, jL2⟩ := jL'.update hi' hs' (o' := .loop { rec .ready with state := .busy }) rfl
      have jD2 := jD'.other (r := w.heap.size + 1) (o' := .loop { rec .ready with state := .busy }) (by omega)
      have hP : ∀ x, x < w.heap.size → (W.putObj (w.heap.size + 1) (.loop { rec .ready with state := .busy })).heap[x]? = W.heap[x]? := fun x hx => World.putObj_heap_other (hx0 x hx)
      have hz2 : (W.putObj (w.heap.size + 1) (.loop { rec .ready with state := .busy })).heap.size = W.heap.size := by simp [World.putObj]
      generalize W.putObj (w.heap.size + 1) (.loop { rec .ready with state := .busy }) = W2 at *
      have t1 := s2.set (some p1) (x := .int .i64 ((xs.length : Int) - 1 - (k : Int))) (.int _ _)
      have t2 := t1.set (some p2) (x := .str (xs.getD (xs.length - 1 - k) [])) (.str _)
      have t3 := t2.set (some q) (val_ok (st := ⟨_, []⟩) t2 (.tmp p2))
      rw [hgv] at t3
      obtain ⟨i4, s4, _⟩ := i2.lay t3 (Nat.le_refl _) (fun _ _ => rfl) (hnn k)
      refine wpIn_mono (hbody _ k hk _ rfl 0 W2 m' cn' _ i4 (by
        rw [hgv]
        have e0 : ∀ v1 v2 : Value, Array.foldl (fun (tmps : Array Value) (x : Tmp × Value) => match x with | (t, a) => tmps.setIfInBounds t a) a.tmps (#[p1, p2].zip #[v1, v2]) = (a.tmps.setIfInBounds p1 v1).setIfInBounds p2 v2 := fun v1 v2 => by simp
        dsimp only
        rw [e0]
        exact s4) rfl) ?_
      rintro e a3 W3 ⟨s, m3, cn3, ⟨rfl, s', hle, hob⟩, hi3, hs3, _⟩
      obtain ⟨m3, cn3, hi3, _⟩ := hle _ _ _ _ hi3 hs3
      rw [hob] at hi3
      obtain ⟨i5, j5, f5, m5⟩ := round_lift (Nat.le_of_eq hX1) i2 hi3
      have jL5 := j5 _ _ jL2
      have jD5 := j5 _ _ jD2
      have hl3 := jL5.2.2.2.1
      have hBW : Bs < W2.heap.size := by omega
      have hbW : b < W2.heap.size := by omega
      obtain ⟨u1, u2, u3⟩ := jL5.update i5 (s2.after hlim hi3.le f5 m5) (o' := .loop (rec .ready)) rfl
      refine ⟨_, _, run_endRound (P := P) none hl3, rfl, ?_, ?_, ?_⟩
      · rw [hrec] at u1 u2 u3 ⊢
        refine ⟨m3, cn3, u1, u2, jD5.other (by omega), u3, (f5 Bs hBW fB').1, (f5 b hbW fb').1, ?_⟩
        have h9 : W2.heap.size ≤ W3.heap.size := hi3.le
        simp [World.putObj]; omega
      · rw [World.putObj_heap_other (hx0 Bs hBl), (f5 Bs hBW fB').2, hP Bs hBl]
      · rw [World.putObj_heap_other (hx0 b hbl), (f5 b hbW fb').2, hP b hbl]
    · rintro e W2 ⟨⟨v, rfl⟩, m', cn', hi', hs', jD', jL', _⟩
      have hl : W2.heap[w.heap.size + 1]? = some (.loop (rec .ready)) := jL'.2.2.2.1
      refine ⟨none, W2.putObj (w.heap.size + 1) (.loop (rec .exhausted)), ?_, ?_⟩
      · have := run_endLoop (P := P) hl (by rw [hrec]; simp)
        rw [hrec] at this ⊢; exact this
      · obtain ⟨u1, u2, u3⟩ := jL'.update hi' hs' (o' := .loop (rec .exhausted)) rfl
        rw [hd]
        exact hfin w.heap.size X1 _ m' cn' hX1 u1 u2 (jD'.other (by omega)) hback1
end
end Go.Ev
/-! A function that ranges over slices.Backward: its end. -/
namespace Go.Ev
open Go

section
variable {P : Program} {X : Ctx} {T : Nat → Option TI} {ops : Array Oper}

theorem wl_run (hT : TOK P T) {n0 : Nat} (hX : X.n0 = n0) {ds : List Deferred} {Q : Exit → Act → World → Prop} {s1 : St}
    (hq : ∀ w m cn a, Inv X w s1.ob m cn → Sl X w m cn s1.tm a → a.defers = ds → Q .normal a w) : ∀ {l : List Oper} {st : St}, runB T n0 ops l st = some s1 →
      ∀ w m cn a, Inv X w st.ob m cn → Sl X w m cn st.tm a → a.defers = ds → wpList P ops Q l a w
  | [], st, h, w, m, cn, a, hi, hs, hd => by simp only [runB] at h; cases h; exact hq w m cn a hi hs hd
  | o :: l, st, h, w, m, cn, a, hi, hs, hd => by
    simp only [runB] at h
    split at h
    · rename_i hg
      split at h
      · rename_i x st2 hx
        obtain ⟨nx, u, w', m', cn', hrun, hnx, hi', hs', hR⟩ := opB_ok (P := P) hT hX hx w m cn a hi hs
        refine wpList_step fun K hK => ?_
        rw [gd_ok hs hg, if_pos rfl]
        have hs2 : Sl X w' m' cn' (setD o.dst x st2.tm) (a.put o.dst u) := by
          have := hs'.set o.dst hR
          cases ho : o.dst <;> simpa [setD, ho] using this
        have hd2 : (a.put o.dst u).defers = ds := by cases ho : o.dst <;> simpa [Act.put] using hd
        unfold Oper.wp
        rw [hrun]
        rcases hnx with rfl | ⟨rfl, rfl⟩
        · exact hK _ _ (wl_run hT hX hq h w' m' cn' _ hi' hs2 hd2)
        · exact hK _ _ (wl_run hT hX hq h w' m' cn' _ hi' hs2 hd2)
      · cases h
    · rename_i hg
      refine wpList_step fun K hK => ?_
      rw [gd_ok hs hg, if_neg (by simp)]
      have hs2 : Sl X w m cn (setD o.dst (.tup []) st.tm) (a.put o.dst undef) := by
        have := hs.set o.dst (x := .tup []) (u := undef) (.tup .lnil)
        cases ho : o.dst <;> simpa [setD, ho] using this
      have hd2 : (a.put o.dst undef).defers = ds := by cases ho : o.dst <;> simpa [Act.put] using hd
      exact hK _ _ (wl_run hT hX hq h w m cn _ hi hs2 hd2)
    · cases h

/-- where a body ends that has a mark among its deferred calls -/
def MPost (T : Nat → Option TI) (X : Ctx) (fn : Func) (n0 : Nat) (r : V) (ob' : List Ob) (e : Exit) (a : Act) (w : World) : Prop :=
  (e = .ret ∨ e = .normal) ∧ ∃ D X1 st m cn, a.defers = [{ target := .collected D, args := #[] }] ∧ Inv X1 w st.ob m cn ∧ Sl X1 w m cn st.tm a ∧ JB X1 D (.deferred (some [])) w cn ∧
    (∀ w2 ob2 m2 cn2, Inv X1 w2 ob2 m2 cn2 → Inv X w2 ob2 m2 cn2 ∧ ∀ b, frz X1 cn2 b → frz X cn2 b) ∧ Done T fn n0 r ob' .ret st

theorem Ct_bodyM (hT : TOK P T) {f : FuncId} {fn : Func} {c : Code} (hf : P.funcs[f]? = some fn) (hb : fn.body = some c) {args : List V} {ob ob' : List Ob} {r : V}
    (h : ∀ X : Ctx, X.n0 = ob.length → ∀ w m cn a, Inv X w ob m cn → Sl X w m cn (args ++ List.replicate (fn.ntmps - args.length) (.tup [])) a → a.defers = [] → c.wp P (MPost T X fn ob.length r ob') a w) : Ct P f args ob r ob' := by
  intro w fr m cn us hfr hi hR
  have hlen := hR.len
  refine callsIn_wide.1 (callsIn_of_wp_marks (F := Fence.wide) (n := 0) hf hb trivial (wpIn_wide.2 ?_))
  refine Code.wp_mono ?_ (h _ rfl w m cn ⟨us.toArray ++ Array.replicate (fn.ntmps - us.toArray.size) undef, []⟩ hi ?_ rfl)
  · rintro e a' w' ⟨he, D, X1, st, m', cn', hd, hi1, hs1, hj, hback, _, xs, r2, ob2, h1, h2, h3, h4, h5, h6, h7⟩
    obtain ⟨k1, k2, _⟩ := hj.update hi1 hs1 (o' := .deferred none) rfl
    have htk := run_takeDeferred (P := P) hj.2.2.2.1
    generalize w'.putObj D (.deferred none) = w2 at *
    obtain ⟨hi', hfz⟩ := hback _ _ _ _ k1
    have hs' : Sl ⟨w, fr, fun b => ∃ id, 0 < cn id b, m, ob.length⟩ w2 m' cn' st.tm a' := R.mono k2 (Nat.le_refl _) (fun b _ hf => ⟨hfz b hf, rfl⟩) (fun _ _ => rfl) trivial (fun _ _ h => ⟨h, rfl⟩)
    obtain ⟨u, hu, hRu⟩ := results_ok hT hi' hs' h1
    obtain ⟨cn2, d, a1, a2, a3, a4, a5⟩ := takeV_ok ob.length (one? xs) h2 (N := st.ob.length) hi' (Nat.le_refl _) hRu
    have htrim := a1.trim (n := ob.length) (Nat.le_refl _) h4 (fun o ho => by rw [h5] at ho; exact List.all_eq_true.1 h6 o ho)
    rw [h5] at htrim
    have hfin : (fun (e : Ending) (w' : World) => ∃ u m' cn' d, e = .returned u ∧ Inv ⟨w, fr, fun b => ∃ id, 0 < cn id b, m, ob.length⟩ w' ob' m' cn' ∧
        R w' (frz ⟨w, fr, fun b => ∃ id, 0 < cn id b, m, ob.length⟩ cn') m' (.one r u) d ∧ ob'.length = ob.length ∧ ∃ n, ob.length ≤ n ∧ ∀ z, d z ≤ cn' n z) (.returned u) w2 :=
      ⟨u, _, cn2, d, rfl, htrim, h3 _ _ _ _ _ (R.limM (n := ob.length) (fun id hid => by simp [hid]) a3 h7), by rw [← h5, List.length_take]; omega, st.ob.length, by omega, fun z => by have := a4 z; omega⟩
    have hlv : LeavesInM Fence.wide 0 P fn a'.tmps (fun (e : Ending) (w' : World) => ∃ u m' cn' d, e = .returned u ∧ Inv ⟨w, fr, fun b => ∃ id, 0 < cn id b, m, ob.length⟩ w' ob' m' cn' ∧
        R w' (frz ⟨w, fr, fun b => ∃ id, 0 < cn id b, m, ob.length⟩ cn') m' (.one r u) d ∧ ob'.length = ob.length ∧ ∃ n, ob.length ≤ n ∧ ∀ z, d z ≤ cn' n z) a'.defers .returning w' := by
      rw [hd]
      exact ⟨by simp, .inl ⟨D, w2, rfl, htk, u, hu, hfin⟩⟩
    rcases he with rfl | rfl
    · exact hlv
    · exact hlv
  · have := R.ljoin hR (replicate_R (w := w) (fr := frz ⟨w, fr, fun b => ∃ id, 0 < cn id b, m, ob.length⟩ cn) (m := m) (fn.ntmps - args.length))
    have h2 := this.zero fun z => by simp [z0]
    simp only [Sl]
    rw [show (us.toArray ++ Array.replicate (fn.ntmps - us.toArray.size) undef).toList = us ++ List.replicate (fn.ntmps - args.length) undef from by simp [hlen]]
    exact h2

/-- what follows is asked of worlds, not of states -/
def WF (P : Program) (X : Ctx) (c : Code) (st : St) (B : Exit → Act → World → Prop) : Prop :=
  ∀ w m cn a, Inv X w st.ob m cn → Sl X w m cn st.tm a → a.defers = [] → c.wp P B a w

variable {st s1 s2 : St} {B : Exit → Act → World → Prop}
theorem WF_le {c : Code} (h : Le X st s1) (hk : WF P X c s1 B) : WF P X c st B := by
  intro w m cn a hi hs hd
  obtain ⟨m', cn', hi', hs'⟩ := h w m cn a hi hs
  exact hk w m' cn' a hi' hs' hd
theorem WF_rseqK {id : Nat} {y : Code} (ks : List Nat) (h : Runs P X ops ops.toList st s1) (hk : WF P X y (s1.keep ks) B) : WF P X (.seq (.region id ops false) y) st B := by
  intro w m cn a hi hs hd
  refine wp_seq (Code.wp_mono ?_ (W_reg (id := id) h (Q := fun e s => e = .normal ∧ s = s1) ⟨rfl, rfl⟩ w m cn a hi hs hd))
  rintro e a' w' ⟨s, m', cn', ⟨rfl, rfl⟩, hi', hs', hd'⟩
  exact WF_le (Le.keep ks s) hk w' m' cn' a' hi' hs' hd'

theorem WF_range {T : Nat → Option TI} {fn : Func} {n0 : Nat} {r : V} {ob' : List Ob} {id2 id3 bid : Nat} {ops2 ops3 : Array Oper} {gf : FuncId} {g : Operand} {p1 p2 q : Tmp} {assign body : Code} {xs : List (List UInt8)} {tm : List V} {fo : Nat → List Ob} (nn : Nat) {s3 : St}
    (hT : TOK P T) (h2 : Runs P X ops2 ops2.toList st s1) (hle : Le X s1 ⟨tm, fo 0⟩)
    (eg : ∀ args w, (callFunc gf args).run P w = .ok (.enter gf args) w) (hback : BackOK P gf)
    (hg : val ⟨tm, fo 0⟩ g = .clo (.func gf) [] [.fp [.lst false 1 (xs.map V.str)]]) (hxs : xs.length ≤ 1099511627776)
    (ha : ∀ (r : Nat) (W : World) (a0 : Act) (K : Act → World → Prop), K (a0.put (some q) (a0.eval (.tmp p2))) W → assign.wpIn (rfc r) 0 P (Exit.then K (fun _ _ _ => False)) a0 W)
    (hlim : limL nn tm = true) (hnn : ∀ k, nn ≤ (fo k).length) (hX : X.n0 ≤ nn)
    (hbody : ∀ (r k : Nat) (hk : k < xs.length) (X' : Ctx), X'.n0 = nn → WI P X' r body ⟨tmR tm p1 p2 q ((xs.length : Int) - 1 - (k : Int)) (xs[xs.length - 1 - k]'(by omega)), fo k⟩ (fun e s => e = .normal ∧ ∃ s', Le X' s s' ∧ s'.ob = fo (k + 1)))
    (h3 : runB T nn ops3 ops3.toList ⟨tm, fo xs.length⟩ = some s3) (hdone : Done T fn n0 r ob' .ret s3) :
    WF P X (.seq (.seq (.region id2 ops2 false) (.block bid (.rangeFunc g #[p1, p2] assign body))) (.seq (.region id3 ops3 false) .ret)) st (MPost T X fn n0 r ob') := by
  intro w m cn a hi hs hd
  refine wp_seq (wp_seq (Code.wp_mono ?_ (W_reg (id := id2) h2 (Q := fun e s => e = .normal ∧ s = s1) ⟨rfl, rfl⟩ w m cn a hi hs hd)))
  rintro e a' w' ⟨s, m', cn', ⟨rfl, rfl⟩, hi', hs', hd'⟩
  obtain ⟨m2, cn2, i2, t2⟩ := hle w' m' cn' a' hi' hs'
  refine wp_block (range_run (nn := nn) (xs := xs) (fo := fo) eg hback hg hxs ha hlim hnn hX hbody i2 t2 hd' ?_)
  intro D X1 W' m3 cn3 hX1 i3 t3 j3 hb3
  refine wp_seq (wp_region_list ?_)
  obtain ⟨i5, t5, _⟩ := i3.lay t3 (Nat.le_refl _) (fun _ _ => rfl) (hnn xs.length)
  refine wl_run hT (X := ctxB X1 W' W' m3 cn3 nn) rfl (st := ⟨tm, fo xs.length⟩) (s1 := s3) (ds := [{ target := .collected D, args := #[] }]) ?_ h3 W' m3 cn3 _ i5 t5 rfl
  intro w4 m4 cn4 a4 i4 t4 hd4
  obtain ⟨g1, g2⟩ := i3.back (Nat.le_refl _) (fun _ _ => rfl) rfl rfl rfl (Nat.le_of_eq hX1) i4
  obtain ⟨_, j5, _, _⟩ := round_lift (Nat.le_of_eq hX1) i3 i4
  exact wp_ret ⟨.inl rfl, D, X1, s3, m4, cn4, hd4, g1, R.mono t4 (Nat.le_refl _) (fun b _ hf => ⟨g2 b hf, rfl⟩) (fun _ _ => rfl) trivial (fun _ _ h => ⟨h, rfl⟩), j5 _ _ j3, hb3, hdone⟩

theorem Ct_bodyMS {T : Nat → Option TI} (hT : TOK P T) {f : FuncId} {fn : Func} {c : Code} (hf : P.funcs[f]? = some fn) (hb : fn.body = some c) (n : Nat) (hn : fn.ntmps = n) {args : List V} (hl : Nat.ble args.length n = true) {ob ob' : List Ob} {r : V}
    (h : ∀ X : Ctx, X.n0 = ob.length → WF P X c ⟨sp n (argA 0 args), ob⟩ (MPost T X fn ob.length r ob')) : Ct P f args ob r ob' := by
  refine Ct_bodyM hT hf hb fun X hX => WF_le (Le.less ?_ fun i y hy => ?_) (h X hX)
  · have := Nat.le_of_ble_eq_true hl
    rw [sp_length, List.length_append, List.length_replicate]; omega
  · rw [sp_get] at hy
    split at hy
    · rw [lkA_arg] at hy
      simp at hy
      by_cases hi : i < args.length
      · left
        rw [List.getElem?_append_left hi, List.getElem?_eq_getElem hi]
        rw [List.getElem?_eq_getElem hi] at hy
        simpa using hy
      · right
        rw [List.getElem?_eq_none (by omega)] at hy
        simpa using hy.symm
    · cases hy

theorem assign_in {id r : Nat} {o : Oper} {q p2 : Tmp} {W : World} {a0 : Act} {K : Act → World → Prop} (hk : K (a0.put (some q) (a0.eval (.tmp p2))) W) (hd : o.dst = some q) (hop : o.op = .assign (.tmp p2)) (hg : o.guard = none) :
    (Code.region id #[o] false).wpIn (rfc r) 0 P (Exit.then K (fun _ _ _ => False)) a0 W := by
  refine wpIn_region_list ?_
  show wpListIn (rfc r) 0 P #[o] _ [o] a0 W
  unfold wpListIn
  rw [if_pos (by simp [Region.wanted, hg])]
  refine ⟨fun _ _ => trivial, ?_⟩
  show o.uponIn (rfc r) 0 P a0 _ _ ((o.semAt (some r) a0.eval).run P W)
  rw [Oper.semAt_some r a0.eval o (fun c e => by rw [hop] at e; cases e)]
  have : (execOp a0.eval o).run P W = .ok (.value (a0.eval (.tmp p2))) W := by simp [execOp, hop]
  rw [this, Oper.uponIn_value, hd]
  exact hk
end
end Go.Ev
