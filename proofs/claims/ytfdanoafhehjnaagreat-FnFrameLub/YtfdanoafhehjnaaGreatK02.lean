/- Part 3 of what the proofs lean on: an evaluator of Go functions over abstract values. Conditions: none. -/
import Derived.Test.YtfdanoafhehjnaaGreatK01
import Derived.Laws.BytesString
import Derived.MapKept
import Derived.Deep.Quiet
import Derived.StillTail
set_option linter.all false
set_option linter.unusedVariables false
set_option linter.unusedSimpArgs false
set_option maxHeartbeats 2000000
set_option maxRecDepth 100000
namespace Go.Ev
open Go

section
variable {P : Program} {X : Ctx} {L : List Nat} {st : St} {o : Oper} {T : Nat → Option TI}

def vlen : V → Option Nat
  | .str l => some l.length
  | .lst _ _ xs => some xs.length
  | .arr _ _ n => some n
  | .raw (.slice none 0 0) => some 0
  | _ => none

theorem ok_len (hT : TOK P T) {t : Nat} {x : Operand} {ti : TI} (ho : o.op = .call { callee := .builtin .len, args := #[x], argTypes := #[t] }) (ht : T t = some ti)
    (hk : (match ti.kd, val st x with | .str, .str _ => true | .slice _, .str _ => false | .slice _, _ => true | _, _ => false) = true) {n : Nat} (hn : vlen (val st x) = some n) : OKp P X L st o (.int .i64 n) := by
  intro w m cn a hi hs
  have h1 := val_ok hs x
  obtain ⟨i, d, z, _, hu, _, hd, _⟩ := TI.of hT ht
  have key : (∀ w, (Builtin.len_ #[t] o.type #[a.eval x]).run P w = .ok (.int .i64 n) w) → ∃ u, (∀ w', Kr X cn L w w' → (execOp a.eval o).run P w' = .ok (.value u) w') ∧ R w (frz X cn) m (.one (.int .i64 n) u) z0 :=
    fun h => ⟨.int .i64 n, fun w _ => by simp only [execOp, ho, resolve, invoke, builtin, Sem.run_bind, Sem.run_pure, Result.andThen_ok, List.map_toArray, List.map_cons, List.map_nil, h], .int _ _⟩
  refine key fun w' => ?_
  generalize hv : val st x = v at h1 hk hn
  generalize a.eval x = u at h1
  split at hk
  · rename_i l hkd
    cases hn
    rw [hkd] at hd
    have := kd_str hd
    subst this
    cases h1
    have hsz : (⟨l.toArray⟩ : ByteArray).size = l.length := by show l.toArray.size = _; simp
    simp only [Builtin.len_, List.getElem?_toArray, List.getElem?_cons_zero, Sem.run_bind, run_underlying hu, Result.andThen_ok, goInt, hsz, Sem.run_pure]
  · cases hk
  · rename_i e hkd _
    rw [hkd] at hd
    have := kd_slice hd
    subst this
    have : ∃ b c, u = .slice b n c := by
      unfold vlen at hn
      split at hn
      · rename_i hne; exact (hne _ rfl).elim
      · cases hn; cases h1 <;> exact ⟨_, _, rfl⟩
      · cases hn; cases h1 <;> exact ⟨_, _, rfl⟩
      · cases hn; cases h1; exact ⟨_, _, rfl⟩
      · cases hn
    obtain ⟨b, c, rfl⟩ := this
    simp [Builtin.len_, run_underlying hu, goInt]
  · cases hk

def opField (T : Nat → Option TI) (t f : Nat) (x : V) : Option V :=
  match T t with
  | some ti => match ti.kd with
    | .struct fs => match fs[f]? with
      | some (off, ft) => match T ft with
        | some fi => match x with
          | .agg xs => if off ≤ xs.length then rd fi (xs.drop off) else none
          | _ => none
        | none => none
      | none => none
    | _ => none
  | none => none

theorem ok_field (hT : TOK P T) {t f : Nat} {x : Operand} (ho : o.op = .field t x f) {r : V} (h : opField T t f (val st x) = some r) : OKp P X L st o r := by
  intro w m cn a hi hs
  have h1 := val_ok hs x
  generalize hv : val st x = v at h1 h
  generalize hau : a.eval x = u at h1
  unfold opField at h
  split at h
  · rename_i ti ht
    split at h
    · rename_i fs hk
      split at h
      · rename_i off ft hf
        split at h
        · rename_i fi hfi
          split at h
          · rename_i xs
            split at h
            · rename_i hoff
              obtain ⟨i, d, z, _, hu, _, hd, _⟩ := TI.of hT ht
              rw [hk] at hd
              obtain ⟨gs, rfl, rfl⟩ := kd_struct hd
              obtain ⟨g, hg, hgo⟩ : ∃ g : Field, gs[f]? = some g ∧ (g.offset, g.type) = (off, ft) := by
                simp only [List.getElem?_map, Option.map_eq_some_iff] at hf
                obtain ⟨g, h1, h2⟩ := hf
                exact ⟨g, by simpa using h1, h2⟩
              cases hgo
              obtain ⟨j, d2, z2, hj, hu2, _, _, hsz, _⟩ := TI.of hT hfi
              obtain ⟨us, rfl, hR⟩ : ∃ us, u = .agg (List.toArray us) ∧ R w (frz X cn) m (.list xs us) z0 := by
                generalize hz : z0 = c at h1
                cases h1 with
                | agg h => exact ⟨_, rfl, h⟩
              have hR0 := hR
              rw [← List.take_append_drop g.offset xs] at hR
              obtain ⟨c1, c2, hA, hB, hc⟩ := R.lsplit hR
              rw [List.length_take, Nat.min_eq_left hoff] at hA hB
              have e2 : c2 = z0 := funext fun y => by have := hc y; simp [z0] at this ⊢; omega
              subst e2
              have hfin : ∃ v, (∀ w, (part g.type us.toArray g.offset).run P w = .ok v w) ∧ R w (frz X cn) m (.one r v) z0 := by
                unfold rd at h
                by_cases hagg : fi.isAgg = true
                · rw [if_pos hagg] at h
                  split at h
                  · rename_i hlen
                    cases h
                    rw [← List.take_append_drop fi.size (xs.drop g.offset)] at hB
                    obtain ⟨c3, c4, hC, hD, hc2⟩ := R.lsplit hB
                    have e3 : c3 = z0 := funext fun y => by have := hc2 y; simp [z0] at this ⊢; omega
                    subst e3
                    rw [hlen] at hC
                    refine ⟨.agg ((us.drop g.offset).take fi.size).toArray, fun w => ?_, .agg hC⟩
                    simp only [part, Sem.run_bind, isAgg_run hT hfi, hagg, if_true, Result.andThen_ok, run_sizeOf hj, Sem.run_pure]
                    congr 2
                    apply Array.ext'
                    simp [hsz, List.take_drop]
                  · cases h
                · rw [if_neg hagg] at h
                  obtain ⟨v, d3, hv3, hR3, hle⟩ := R.one0 hB 0 r h
                  refine ⟨v, fun w => ?_, hR3.zero fun z => by have := hle z; simp [z0] at this; omega⟩
                  have hfa : fi.isAgg = false := by simpa using hagg
                  simp only [List.getElem?_drop, Nat.add_zero] at hv3
                  simp [part, isAgg_run hT hfi, hfa, hv3]
              obtain ⟨v, hv1, hv2⟩ := hfin
              refine ⟨v, fun w _ => ?_, hv2⟩
              simp [execOp, ho, hau, Instr.field, run_underlying hu, hg, asAgg, hv1]
            · cases h
          · cases h
        · cases h
      · cases h
    · cases h
  · cases h

theorem ok_makeFunc {fn : Fn} {first cap : Array Operand} (ho : o.op = .makeFunc fn first cap) : OKp P X L st o (.clo fn (first.toList.map (val st)) (cap.toList.map (val st))) := by
  intro w m cn a hi hs
  have hargs : ∀ l : List Operand, R w (frz X cn) m (.list (l.map (val st)) (l.map a.eval)) z0 := by
    intro l
    induction l with
    | nil => exact .lnil
    | cons x l ih => exact .lcons (val_ok hs x) ih (fun _ => rfl)
  refine ⟨.func fn (first.map a.eval) (cap.map a.eval), fun w _ => by simp [execOp, ho, Instr.makeFunc], ?_⟩
  have := R.clo (f := fn) (hargs first.toList) (hargs cap.toList) (e := z0) (fun _ => rfl)
  have e : ∀ l : Array Operand, (l.toList.map a.eval).toArray = l.map a.eval := fun l => by apply Array.ext'; simp
  rw [e, e] at this
  exact this

/-! equality of structs whose fields are plain cells -/

def eqF (T : Nat → Option TI) : List (Nat × Nat) → List V → List V → Option Bool
  | [], [], [] => some true
  | f :: fs, x :: xs, y :: ys => match T f.2 with
    | some ti => match ti.kd, x, y with
      | .bool, .bool p, .bool q => (match eqF T fs xs ys with | some r => some ((p == q) && r) | none => none)
      | .int _, .int k p, .int k' q => if k = k' then (match eqF T fs xs ys with | some r => some ((p == q) && r) | none => none) else none
      | .str, .str p, .str q => (match eqF T fs xs ys with | some r => some ((p == q) && r) | none => none)
      | _, _, _ => none
    | none => none
  | _, _, _ => none

theorem eqF_run (hT : TOK P T) {w : World} {fr : Nat → Prop} {m : Mp} {gs : List Field} :
    ∀ {xs ys : List V} {us vs : List Value} {c d : Cnt}, R w fr m (.list xs us) c → R w fr m (.list ys vs) d → ∀ {k : Nat},
    ((gs.zipIdx k).all fun (f, i) => f.offset == i && f.name != "_" && (match P.underlying f.type with | some .bool => true | some (.int _) => true | some .string => true | _ => false)) = true →
    ∀ {us' vs' : List Value}, us'.drop k = us → vs'.drop k = vs → ∀ {b : Bool}, eqF T (gs.map fun f => (f.offset, f.type)) xs ys = some b → ∀ (dp : Nat) (w1 : World),
    (Op.eqFields (dp + 1) us'.toArray vs'.toArray gs).run P w1 = .ok b w1 := by
  induction gs with
  | nil =>
    intro xs ys us vs c d _ _ k _ us' vs' _ _ b h dp w1
    cases xs <;> cases ys <;> simp [eqF] at h
    subst h
    simp [Op.eqFields]
  | cons g gs ih =>
    intro xs ys us vs c d hx hy k hp us' vs' hus hvs b h dp w1
    cases xs with
    | nil => simp [eqF] at h
    | cons x xs =>
      cases ys with
      | nil => simp [eqF] at h
      | cons y ys =>
        cases hx with
        | lcons hx1 hx2 hxe =>
          rename_i u us c1 c2
          cases hy with
          | lcons hy1 hy2 hye =>
            rename_i v vs d1 d2
            simp only [List.zipIdx_cons, List.all_cons, Bool.and_eq_true] at hp
            obtain ⟨⟨⟨hoff, hname⟩, _⟩, hrest⟩ := hp
            have hoff : g.offset = k := by simpa using hoff
            have hu : us'[k]? = some u := by
              have := congrArg (fun l : List Value => l[0]?) hus
              simpa using this
            have hv : vs'[k]? = some v := by
              have := congrArg (fun l : List Value => l[0]?) hvs
              simpa using this
            have hn : g.name ≠ "_" := by simpa using hname
            have go : ∀ {r : Bool}, eqF T (gs.map fun f => (f.offset, f.type)) xs ys = some r → (Op.eqFields (dp + 1) us'.toArray vs'.toArray gs).run P w1 = .ok r w1 := fun hr =>
              ih (k := k + 1) hx2 hy2 hrest (by rw [← List.drop_drop, hus]; rfl) (by rw [← List.drop_drop, hvs]; rfl) hr dp w1
            have fin : ∀ {p r : Bool} {e : TypeDesc}, P.underlying g.type = some e → (match e with | .struct _ => false | .array _ _ => false | _ => true) = true → (Op.equalIn (dp + 1) g.type u v).run P w1 = .ok p w1 →
                eqF T (gs.map fun f => (f.offset, f.type)) xs ys = some r → (Op.eqFields (dp + 1) us'.toArray vs'.toArray (g :: gs)).run P w1 = .ok (p && r) w1 := by
              intro p r e he hne h3 hr
              have h1 : (part g.type us'.toArray g.offset).run P w1 = .ok u w1 := by
                cases e <;> simp at hne <;> simp [part, isAgg, run_underlying he, hoff, hu]
              have h2 : (part g.type vs'.toArray g.offset).run P w1 = .ok v w1 := by
                cases e <;> simp at hne <;> simp [part, isAgg, run_underlying he, hoff, hv]
              simp only [Op.eqFields, if_pos hn, Sem.run_bind, h1, h2, h3, Result.andThen_ok]
              cases p with
              | true => simpa using go hr
              | false => simp
            simp only [List.map_cons, eqF] at h
            split at h
            · rename_i ti ht
              obtain ⟨i, e, z, _, he, _, hd, _⟩ := TI.of hT ht
              split at h
              · rename_i hk
                split at h
                · rename_i r hr
                  cases h; cases hx1; cases hy1
                  rw [hk] at hd
                  have := kd_bool hd
                  subst this
                  exact fin he rfl (run_equalIn_bool w1 dp g.type _ _ he) hr
                · cases h
              · rename_i kk k1 p k2 q hk
                split at h
                · rename_i hkk
                  subst hkk
                  split at h
                  · rename_i r hr
                    cases h; cases hx1; cases hy1
                    rw [hk] at hd
                    have := kd_int hd
                    subst this
                    exact fin he rfl (run_equalIn_int w1 dp g.type _ _ _ _ he) hr
                  · cases h
                · cases h
              · rename_i p q hk
                split at h
                · rename_i r hr
                  cases h; cases hx1; cases hy1
                  rw [hk] at hd
                  have := kd_str hd
                  subst this
                  refine fin he rfl ?_ hr
                  rw [run_equalIn_string w1 dp g.type _ _ he]
                  have e1 : ∀ l : List UInt8, (⟨l.toArray⟩ : ByteArray).toList = l := fun l => by rw [ByteArray.toList_eq]
                  rw [e1, e1]
                · cases h
              · cases h
            · cases h

/-- is a type a plain struct, and what are its fields? -/
def plainFs (T : Nat → Option TI) (t : Nat) : Option (List (Nat × Nat)) :=
  match T t with
  | some ti => if ti.plain then (match ti.kd with | .struct fs => some fs | _ => none) else none
  | none => none

theorem ok_structEq (hT : TOK P T) {op : BinOp} {t t' : Nat} {x y : Operand} (ho : o.op = .binOp op t x y t') (hop : op = .eql ∨ op = .neq) {fs : List (Nat × Nat)} (hfs : plainFs T t = some fs)
    {xs ys : List V} (hx : val st x = .agg xs) (hy : val st y = .agg ys) {b : Bool} (h : eqF T fs xs ys = some b) : OKp P X L st o (.bool (if op = .eql then b else !b)) := by
  intro w m cn a hi hs
  have h1 := val_ok hs x
  have h2 := val_ok hs y
  rw [hx] at h1
  rw [hy] at h2
  unfold plainFs at hfs
  split at hfs
  · rename_i ti ht
    split at hfs
    · rename_i hpl
      split at hfs
      · rename_i fs' hk
        cases hfs
        obtain ⟨i, d, z, _, hu, _, hd, _, _, _, hp⟩ := TI.of hT ht
        rw [hk] at hd
        obtain ⟨gs, rfl, rfl⟩ := kd_struct hd
        rw [hpl] at hp
        simp only [mkPlain] at hp
        replace hp := hp.symm
        simp only [Bool.and_eq_true, Bool.not_eq_true'] at hp
        obtain ⟨⟨hp1, hp2⟩, hp3⟩ := hp
        obtain ⟨us, hus, hRx⟩ : ∃ us, a.eval x = .agg (List.toArray us) ∧ R w (frz X cn) m (.list xs us) z0 := by
          generalize a.eval x = u at h1
          generalize hz : z0 = c at h1
          cases h1 with
          | agg h => exact ⟨_, rfl, h⟩
        obtain ⟨vs, hvs, hRy⟩ : ∃ vs, a.eval y = .agg (List.toArray vs) ∧ R w (frz X cn) m (.list ys vs) z0 := by
          generalize a.eval y = u at h2
          generalize hz : z0 = c at h2
          cases h2 with
          | agg h => exact ⟨_, rfl, h⟩
        have hf : P.fieldsOf t = gs := by simp [Program.fieldsOf, hu]
        have hrun : ∀ w', Kr X cn L w w' → (Op.equalIn 10000 t (.agg us.toArray) (.agg vs.toArray)).run P w' = .ok b w' := by
          intro w' _
          rw [run_equalIn_agg w' 9999 t us.toArray vs.toArray (by rw [hf]; exact hu) hp2, hf]
          exact eqF_run hT hRx hRy (k := 0) hp1 rfl rfl h 9998 w'
        rcases hop with rfl | rfl
        · exact ⟨.bool b, fun w' hw' => by simp [execOp, ho, hus, hvs, run_eqGuard_agg w' _ _ _ _ _ _ hp3, run_eql_struct, hrun w' hw'], .bool _⟩
        · exact ⟨.bool (!b), fun w' hw' => by simp [execOp, ho, hus, hvs, run_eqGuard_agg w' _ _ _ _ _ _ hp3, run_neq_struct, hrun w' hw'], .bool _⟩
      · cases hfs
    · cases hfs
  · cases hfs

end
end Go.Ev
/-! Look-ups in a frozen map; bytes to a string. -/
namespace Go.Ev
open Go

theorem kd_map {d : TypeDesc} {k e : Nat} (h : Kd.map k e = mkKd d) : d = .map k e := by cases d <;> simp_all [mkKd]

/-- the first entry of a key -/
def lookM : List (List UInt8 × Int) → List UInt8 → Option Int
  | [], _ => none
  | p :: ps, s => if p.1 = s then some p.2 else lookM ps s

theorem mk_inj {a b : List UInt8} : ((⟨a.toArray⟩ : ByteArray) == ⟨b.toArray⟩) = decide (a = b) := by
  rw [Bool.eq_iff_iff, MapKept.bytes_beq]
  simp

theorem findNow_lookM (s : List UInt8) : ∀ (ens : List MapEntry) (es : List (List UInt8 × Int)) (i : Nat),
    ens.map (fun e => (e.key, e.val)) = es.map (fun p => (Value.string ⟨p.1.toArray⟩, Value.int .i64 p.2)) →
    ∃ r, Instr.findNow .string (.string ⟨s.toArray⟩) ens i = some r ∧ r.map (·.2) = (lookM es s).map (Value.int .i64)
  | [], [], _, _ => ⟨none, rfl, rfl⟩
  | [], _ :: _, _, h => by simp at h
  | _ :: _, [], _, h => by simp at h
  | e :: ens, p :: es, i, h => by
    simp only [List.map_cons, List.cons.injEq, Prod.mk.injEq] at h
    obtain ⟨⟨h1, h2⟩, h3⟩ := h
    obtain ⟨r, hr, hq⟩ := findNow_lookM s ens es (i + 1) h3
    by_cases hp : p.1 = s
    · subst hp
      refine ⟨some (i, e.val), ?_, by simp [lookM, h2]⟩
      simp only [Instr.findNow, h1, Instr.sameNow, mk_inj]
      simp
    · refine ⟨r, ?_, by simp [lookM, hp, hq]⟩
      simp only [Instr.findNow, h1, Instr.sameNow, mk_inj, decide_eq_false (Ne.symm hp), hr]

theorem ofV1_int {v : Value} {k : IntKind} {n : Int} (h : ofV1 v = .int k n) : v = .int k n := by
  cases v <;> simp only [ofV1] at h <;> first
    | (cases h; rfl)
    | (split at h <;> cases h)
    | cases h
theorem ofV_int {v : Value} {k : IntKind} {n : Int} (h : ofV v = .int k n) : v = .int k n := by
  unfold ofV at h
  split at h
  · cases h
  · exact ofV1_int h

section
variable {P : Program} {X : Ctx} {L : List Nat} {st : St} {o : Oper} {T : Nat → Option TI}

theorem ok_lookup (hT : TOK P T) {t kt et : Nat} {x y : Operand} {ok : Bool} {ti ki ei : TI} (ho : o.op = .lookup t x y ok) (ht : T t = some ti) (hk : ti.kd = .map kt et) (hkt : T kt = some ki) (hks : ki.kd = .str)
    (het : T et = some ei) (hz : ei.zero = .int .i64 0) {es : List (List UInt8 × Int)} (hx : val st x = .fmap es) {s : List UInt8} (hy : val st y = .str s) :
    OKp P X L st o (if ok then .tup [.int .i64 ((lookM es s).getD 0), .bool (lookM es s).isSome] else .int .i64 ((lookM es s).getD 0)) := by
  intro w m cn a hi hs
  have h1 := val_ok hs x
  have h2 := val_ok hs y
  rw [hx] at h1
  rw [hy] at h2
  obtain ⟨_, d, _, _, hu, _, hd, _⟩ := TI.of hT ht
  obtain ⟨_, d2, _, _, hu2, _, hd2, _⟩ := TI.of hT hkt
  obtain ⟨ie, d3, z3, hi3, hu3, hz3, _, _, _, hzz, _⟩ := TI.of hT het
  rw [hk] at hd
  have := kd_map hd
  subst this
  rw [hks] at hd2
  have := kd_str hd2
  subst this
  rw [hz] at hzz
  have hzv := ofV_int hzz.symm
  subst hzv
  generalize hux : a.eval x = u at h1
  generalize hvx : V.fmap es = vx at h1
  generalize hjj : J.one vx u = jj at h1
  cases h1 with
  | @fmap _ es' b ens clock hl hb he h =>
    cases hjj
    cases hvx
    obtain ⟨r, hr, hq⟩ := findNow_lookM s ens.toList es 0 h
    refine ⟨if ok then .tuple #[.int .i64 ((lookM es s).getD 0), .bool (lookM es s).isSome] else .int .i64 ((lookM es s).getD 0), ?_, ?_⟩
    · intro w' hw'
      have he' : w'.heap[b]? = some (.map ens clock) := by rw [hw'.2 b hl (.inl hb)]; exact he
      have hrun : (Instr.lookup t (.map (some b)) (.string ⟨s.toArray⟩) ok).run P w' = .ok (if ok then .tuple #[.int .i64 ((lookM es s).getD 0), .bool (lookM es s).isSome] else .int .i64 ((lookM es s).getD 0)) w' := by
        unfold Instr.lookup
        simp only [Sem.run_bind, run_underlying hu, Result.andThen_ok, MapKept.run_getObj_map he', MapKept.run_checkKey hu2 (show MapKept.IsKey .string (.string ⟨s.toArray⟩) from trivial) _ 9999, MapKept.run_findKey hu2 hr, Sem.run_pure]
        have hzr : (zeroValue et).run P w' = .ok (.int .i64 0) w' := by simp [zeroValue, typeInfo, hi3, hz3]
        cases hL : lookM es s with
        | none =>
          rw [hL] at hq
          cases r with
          | none => simp [hzr]
          | some p => simp at hq
        | some v =>
          rw [hL] at hq
          cases r with
          | none => simp at hq
          | some p => simp at hq; simp [hq]
      simp [execOp, ho, hux, R.inv_str h2, hrun]
    · cases ok
      · exact .int _ _
      · exact .tup (.lcons (.int _ _) (.lcons (.bool _) .lnil (fun _ => rfl)) (fun _ => rfl))
  | _ => cases hjj <;> cases hvx

/-- bytes out of cells -/
def bytesV : List V → Option (List UInt8)
  | [] => some []
  | .int .u8 n :: xs => match bytesV xs with | some l => some (UInt8.ofNat n.toNat :: l) | none => none
  | _ => none

theorem bytesV_R {w : World} {fr : Nat → Prop} {m : Mp} : ∀ {xs : List V} {us : List Value} {c : Cnt} {l : List UInt8}, R w fr m (.list xs us) c → bytesV xs = some l →
    ∃ ns : List Int, us = ns.map (Value.int .u8) ∧ l = ns.map fun n => UInt8.ofNat n.toNat
  | [], us, c, l, h, hl => by
    cases h; cases hl; exact ⟨[], rfl, rfl⟩
  | x :: xs, us, c, l, h, hl => by
    cases h with
    | lcons h1 h2 he =>
      unfold bytesV at hl
      split at hl
      · rename_i heq; cases heq
      · rename_i n xs' heq
        cases heq
        split at hl
        · rename_i l' hl'
          cases hl
          obtain ⟨ns, h3, h4⟩ := bytesV_R h2 hl'
          have := R.inv_int h1
          subst this
          exact ⟨n :: ns, by simp [h3], by simp [h4]⟩
        · cases hl
      · cases hl

theorem foldl_push (ns : List Int) : ∀ (r : ByteArray), ns.foldl (fun r n => r.push (UInt8.ofNat n.toNat)) r = ⟨(r.data.toList ++ ns.map fun n => UInt8.ofNat n.toNat).toArray⟩ := by
  induction ns with
  | nil => intro r; simp
  | cons n ns ih => intro r; rw [List.foldl_cons, ih]; simp [ByteArray.push]

theorem flat_ints : ∀ {xs : List V} {l : List UInt8}, bytesV xs = some l → flat xs = xs
  | [], _, _ => rfl
  | x :: xs, l, h => by
    unfold bytesV at h
    split at h
    · rename_i heq; cases heq
    · rename_i heq
      cases heq
      split at h
      · rename_i hl'
        rw [flat_cons, flat_ints hl']; rfl
      · cases h
    · cases h

theorem srcA_blk {w : World} {m : Mp} {cn : Nat → Cnt} {ob : List Ob} (hi : Inv X w ob m cn) {y : V} {u : Value} (hR : R w (frz X cn) m (.one y u) z0) {k : Nat} {ys : List V} (h : srcA ob y = some (k, ys))
    {b off n c : Nat} (hu : u = .slice (some ⟨b, off, none⟩) n c) (hn0 : 0 < n) : frz X cn b ∨ ∃ id o n, y = .arr id o n ∧ 0 < cn id b := by
  cases y with
  | lst ow k' xs =>
    rcases R.inv_lst hR with ⟨_, ad, hu'⟩ | ⟨b', off', cap, hu', _, _, hfr, _⟩
    · rw [hu] at hu'; cases hu'; omega
    · rw [hu] at hu'; cases hu'; exact .inl hfr
  | arr id o n' =>
    rcases R.inv_arr hR with ⟨_, ad, hu'⟩ | ⟨b', k', off', cap, cur, e', hu', _, hm, _⟩
    · rw [hu] at hu'; cases hu'; omega
    · rw [hu] at hu'
      cases hu'
      simp only [srcA] at h
      split at h
      · rename_i k2 xs hid
        obtain ⟨_, _, _, c, _, _, _, _, hc⟩ := hi.object hid hm
        exact .inr ⟨id, o, _, rfl, by rw [hc]; simp⟩
      · cases h
  | _ => simp [srcA] at h

theorem ok_bytesStr (hT : TOK P T) {s t e : Nat} {x : Operand} {si ei ti : TI} (ho : o.op = .convert s t x) (hs : T s = some si) (hk : si.kd = .slice e) (he : T e = some ei) (hke : ei.kd = .int .u8)
    (ht : T t = some ti) (hkt : ti.kd = .str) {ys : List V} (hy : srcA st.ob (val st x) = some (1, ys)) {l : List UInt8} (hl : bytesV ys = some l) (hL : ∀ id o n, val st x = .arr id o n → id ∈ L) : OKp P X L st o (.str l) := by
  intro w m cn a hi hsl
  obtain ⟨_, d, _, _, hu, _, hd, _⟩ := TI.of hT hs
  obtain ⟨_, d2, _, _, hu2, _, hd2, _⟩ := TI.of hT he
  obtain ⟨_, d3, _, _, hu3, _, hd3, _⟩ := TI.of hT ht
  rw [hk] at hd
  have := kd_slice hd
  subst this
  rw [hke] at hd2
  have := kd_int hd2
  subst this
  rw [hkt] at hd3
  have := kd_str hd3
  subst this
  refine ⟨.string ⟨l.toArray⟩, ?_, .str _⟩
  rcases srcA_ok hi (val_ok hsl x) hy with ⟨⟨ad, hux⟩, rfl⟩ | ⟨b, off, c, us, hux, hnl, hnr, hnR, hn1, hyu⟩
  · intro w' _
    cases hl
    cases ad with
    | none =>
      simp [execOp, ho, hux, run_convert_bytes_string w' s t e none 0 0 hu hu2 hu3, Conv.bytesToString]
      rfl
    | some ad =>
      have := run_bytesToString (P := P) w' ad 0 0 [] (by simp [loadCells, loadCellsFrom])
      simp [execOp, ho, hux, run_convert_bytes_string w' s t e _ _ _ hu hu2 hu3, this]
      rfl
  · intro w' hw'
    rw [flat_ints hl] at hnR
    obtain ⟨ns, rfl, rfl⟩ := bytesV_R hnR hl
    have hlen : (ns.map (Value.int .u8)).length = ys.length := by omega
    have hld := loadCellsFrom_run P b off (ns.map (Value.int .u8)) 0 #[] (w := w') (fun j u hu => hw'.cell ((srcA_blk hi (val_ok hsl x) hy hux (by have := (List.getElem?_eq_some_iff.1 hu).1; omega)).imp (fun h => h) (fun ⟨id, o, n, he, hc⟩ => ⟨id, hL id o n he, hc⟩)) (by simpa using hnr j u hu))
    rw [hlen] at hld
    have := run_bytesToString (P := P) w' ⟨b, off, none⟩ ys.length c ns (by simpa [loadCells] using hld)
    simp [execOp, ho, hux, run_convert_bytes_string w' s t e _ _ _ hu hu2 hu3, this, foldl_push]

def opY (T : Nat → Option TI) (st : St) : Op → Option V
  | .lookup t x y ok => match T t with
    | some ti => match ti.kd with
      | .map kt et => match T kt, T et with
        | some ki, some ei => match ki.kd, ei.zero, val st x, val st y with
          | .str, .int .i64 0, .fmap es, .str s => some (if ok then .tup [.int .i64 ((lookM es s).getD 0), .bool (lookM es s).isSome] else .int .i64 ((lookM es s).getD 0))
          | _, _, _, _ => none
        | _, _ => none
      | _ => none
    | none => none
  | .convert s t x => match T s, T t with
    | some si, some ti => match si.kd, ti.kd with
      | .slice e, .str => match T e with
        | some ei => match ei.kd, srcA st.ob (val st x) with
          | .int .u8, some (1, ys) => match bytesV ys with
            | some l => some (.str l)
            | none => none
          | _, _ => none
        | none => none
      | _, _ => none
    | _, _ => none
  | _ => none

/-- which objects an operation that only computes reads -/
def rdB (st : St) (L : List Nat) : Op → Bool
  | .load _ p => match val st p with | .ptr id _ _ => L.contains id | _ => true
  | .convert _ _ x => match val st x with | .arr id _ _ => L.contains id | _ => true
  | _ => true

theorem opY_ok (hT : TOK P T) {x : V} (h : opY T st o.op = some x) (hL : rdB st L o.op = true) : OKp P X L st o x := by
  cases ho : o.op <;> rw [ho] at h <;> simp only [opY] at h <;> try (cases h; done)
  case lookup =>
    split at h
    · rename_i ti ht
      split at h
      · rename_i kt et hk
        split at h
        · rename_i ki ei hki hei
          split at h
          · rename_i h1 h2 h3 h4; cases h; exact ok_lookup hT ho ht hk hki h1 hei h2 h3 h4
          · cases h
        · cases h
      · cases h
    · cases h
  case convert =>
    split at h
    · rename_i si ti hs ht
      split at h
      · rename_i e h1 h2
        split at h
        · rename_i ei he
          split at h
          · rename_i h3 h4
            split at h
            · rename_i h5; cases h; exact ok_bytesStr hT ho hs h1 he h3 ht h2 h4 h5 (fun id o n he => by rw [ho] at hL; simp only [rdB, he] at hL; simpa using hL)
            · cases h
          · cases h
        · cases h
      · cases h
    · cases h

end
end Go.Ev
namespace Go.Ev
open Go

/-- the bounds of a slicing -/
def sl3 (st : St) (n : Nat) (lo hi mx : Option Operand) : Option (Nat × Nat) :=
  match bnd st lo, bnd st hi, bnd st mx with
  | some l, some h, some q => if q.getD n ≤ n ∧ h.getD n ≤ q.getD n ∧ l.getD 0 ≤ h.getD n ∧ (q.isSome = true → h.isSome = true) then some (l.getD 0, h.getD n) else none
  | _, _, _ => none

def opSlice (T : Nat → Option TI) (st : St) (t : Nat) (x : V) (lo hi mx : Option Operand) : Option V :=
  match T t with
  | some ti => match ti.kd with
    | .str => match x, mx with
      | .str p, none => match sl3 st p.length lo hi none with
        | some (l, h) => some (.str ((p.take h).drop l))
        | none => none
      | _, _ => none
    | .slice e => match T e with
      | some ei => match x with
        | .lst _ k xs => if k = ei.size then (match sl3 st xs.length lo hi mx with
          | some (l, h) => some (.lst false k ((xs.take h).drop l))
          | none => none) else none
        | .arr id off n => match st.ob[id]? with
          | some (some (k, _)) => if k = ei.size then (match sl3 st n lo hi mx with
            | some (l, h) => some (.arr id (off + l) (h - l))
            | none => none) else none
          | _ => none
        | _ => none
      | none => none
    | _ => none
  | none => none

def opCall (T : Nat → Option TI) (n0 : Nat) (st : St) (c : Call) : Option (V × St) :=
  match c.callee, c.args.toList, c.argTypes.toList with
  | .builtin .len, [x], [t] => match T t with
    | some ti => match ti.kd, val st x with
      | .str, .str l => some (.int .i64 l.length, st)
      | .slice _, .lst _ _ xs => some (.int .i64 xs.length, st)
      | .slice _, .arr _ _ n => some (.int .i64 n, st)
      | .slice _, .raw (.slice none 0 0) => some (.int .i64 0, st)
      | _, _ => none
    | none => none
  | .builtin .append, [s, x], [t, t'] => if t = t' then (match T t with
    | some ti => match ti.kd with
      | .slice e => match T e with
        | some ei => match srcA st.ob (val st x) with
          | some (k, ys) => if k = ei.size ∧ ei.zero.cells.length = ei.size then (match val st s with
            | .arr id 0 n => match st.ob[id]? with
              | some (some (k, xs)) => if k = ei.size ∧ n0 ≤ id ∧ n ≤ xs.length ∧ (n + ys.length) * ei.bytes ≤ 140737488355328 ∧ n + ys.length ≤ 1099511627776 then
                  some (.arr id 0 (n + ys.length), ⟨jkL (· == id) st.tm, (st.ob.map (jkO (· == id))).set id (some (k, jkL (· == id) (xs.take n ++ ys)))⟩) else none
              | _ => none
            | .raw (.slice none 0 0) => if ys.length * ei.bytes ≤ 140737488355328 ∧ ys.length ≤ 1099511627776 then
                  some (.arr st.ob.length 0 ys.length, ⟨jkL (· == st.ob.length) st.tm, ((st.ob ++ [some (ei.size, [])]).map (jkO (· == st.ob.length))).set st.ob.length (some (ei.size, jkL (· == st.ob.length) ys))⟩) else none
            | _ => none) else none
          | none => none
        | none => none
      | _ => none
    | none => none) else none
  | _, _, _ => none

def opEq (T : Nat → Option TI) (op : BinOp) (t : Nat) (x y : V) : Option V :=
  match op, x, y with
  | .eql, .agg xs, .agg ys => match plainFs T t with
    | some fs => match eqF T fs xs ys with
      | some b => some (.bool b)
      | none => none
    | none => none
  | .neq, .agg xs, .agg ys => match plainFs T t with
    | some fs => match eqF T fs xs ys with
      | some b => some (.bool (!b))
      | none => none
    | none => none
  | _, _, _ => none

def opX (T : Nat → Option TI) (n0 : Nat) (st : St) : Op → Option (V × St)
  | .binOp op t x y _ => match opEq T op t (val st x) (val st y) with | some r => some (r, st) | none => none
  | .field t x f => match opField T t f (val st x) with | some r => some (r, st) | none => none
  | .slice t x lo hi mx => match opSlice T st t (val st x) lo hi mx with | some r => some (r, st) | none => none
  | .makeFunc fn first cap => some (.clo fn (first.toList.map (val st)) (cap.toList.map (val st)), st)
  | .build t parts => match T t with
    | some ti => match ti.kd with
      | .struct fs => if (fs.all fun p => (T p.2).isSome) = true ∧ okCells ti.zero.cells = true then (match bld T st fs ti.zero.cells parts.toList with
        | some rs => some (.agg rs, st)
        | none => none) else none
      | _ => none
    | none => none
  | .buildSlice t len parts => match T t with
    | some ti => match ti.kd with
      | .slice e => match T e with
        | some ei => match lits st 0 parts.toList with
          | some xs => if xs.length = len ∧ okCells (flat xs) = true ∧ (xs.all fun x => x.cells.length == ei.size) = true ∧ len * ei.size ≤ 16777216 ∧ ei.zero.cells.length = ei.size then
              some (.arr st.ob.length 0 len, ⟨st.tm, st.ob ++ [some (ei.size, xs)]⟩) else none
          | none => none
        | none => none
      | _ => none
    | none => none
  | .makeSlice t x y => match T t with
    | some ti => match ti.kd with
      | .slice e => match T e with
        | some ei => match val st x, val st y with
          | .int _ n, .int _ c => if 0 ≤ n ∧ n ≤ c ∧ (ei.bytes : Int) * c ≤ 281474976710656 ∧ c ≤ 9223372036854775807 ∧ okCells ei.zero.cells = true ∧ ei.zero.cells.length = ei.size ∧ 0 < ei.size then
              some (.arr st.ob.length 0 n.toNat, ⟨st.tm, st.ob ++ [some (ei.size, List.replicate n.toNat ei.zero)]⟩) else none
          | _, _ => none
        | none => none
      | _ => none
    | none => none
  | .call c => opCall T n0 st c
  | _ => none

def opB (T : Nat → Option TI) (n0 : Nat) (st : St) (op : Op) : Option (V × St) :=
  match opX T n0 st op with
  | some r => some r
  | none => match opY T st op with
    | some x => some (x, st)
    | none => opA T st op

/-- the objects that an operation reads -/
def allL (op : Op) (st : St) : List Nat := match op with
  | .load _ p => match val st p with | .ptr id _ _ => [id] | _ => []
  | .convert _ _ x => match val st x with | .arr id _ _ => [id] | _ => []
  | _ => []
theorem rdB_all (op : Op) (st : St) : rdB st (allL op st) op = true := by
  unfold rdB allL
  split <;> simp only
  · split <;> simp_all
  · split <;> simp_all

section
variable {P : Program} {X : Ctx} {st : St} {o : Oper} {T : Nat → Option TI}

theorem sl3_ok {n : Nat} {lo hi mx : Option Operand} {l h : Nat} (hs : sl3 st n lo hi mx = some (l, h)) :
    ∃ l' h' q', bnd st lo = some l' ∧ bnd st hi = some h' ∧ bnd st mx = some q' ∧ q'.getD n ≤ n ∧ h'.getD n ≤ q'.getD n ∧ l'.getD 0 ≤ h'.getD n ∧ (q'.isSome = true → h'.isSome = true) ∧ l = l'.getD 0 ∧ h = h'.getD n := by
  unfold sl3 at hs
  split at hs
  · rename_i l' h' q' h1 h2 h3
    split at hs
    · rename_i hc
      cases hs
      exact ⟨_, _, _, h1, h2, h3, hc.1, hc.2.1, hc.2.2.1, hc.2.2.2, rfl, rfl⟩
    · cases hs
  · cases hs

theorem opX_ok (hT : TOK P T) {n0 : Nat} (hX : X.n0 = n0) {x : V} {st' : St} (h : opX T n0 st o.op = some (x, st')) : OKo P X st o x st' := by
  cases ho : o.op <;> rw [ho] at h <;> simp only [opX] at h <;> try (cases h; done)
  case binOp op t p q t' =>
    split at h
    · rename_i r hr
      cases h
      unfold opEq at hr
      split at hr
      · rename_i hx hy
        split at hr
        · rename_i fs hfs
          split at hr
          · rename_i b hb; cases hr; exact (ok_structEq hT ho (.inl rfl) hfs hx hy hb).ok
          · cases hr
        · cases hr
      · rename_i hx hy
        split at hr
        · rename_i fs hfs
          split at hr
          · rename_i b hb; cases hr; exact (ok_structEq hT ho (.inr rfl) hfs hx hy hb).ok
          · cases hr
        · cases hr
      · cases hr
    · cases h
  case field =>
    split at h
    · rename_i r hr; cases h; exact (ok_field hT ho hr).ok
    · cases h
  case makeFunc => cases h; exact (ok_makeFunc ho).ok
  case slice t p lo hi mx =>
    split at h
    · rename_i r hr
      cases h
      unfold opSlice at hr
      split at hr
      · rename_i ti ht
        split at hr
        · rename_i hk
          split at hr
          · rename_i hx
            split at hr
            · rename_i l hh hs
              cases hr
              obtain ⟨l', h', q', h1, h2, h3, h4, h5, h6, h7, rfl, rfl⟩ := sl3_ok hs
              have : q' = none := by simp [bnd] at h3; exact h3.symm
              subst this
              exact (ok_sliceS hT ho ht hk hx h1 h2 (by simpa using h5) h6).ok
            · cases hr
          · cases hr
        · rename_i e hk
          split at hr
          · rename_i ei he
            split at hr
            · rename_i ow k xs hx
              split at hr
              · rename_i hsz
                subst hsz
                split at hr
                · rename_i l hh hs
                  cases hr
                  obtain ⟨l', h', q', h1, h2, h3, h4, h5, h6, h7, rfl, rfl⟩ := sl3_ok hs
                  exact (ok_sliceL hT ho ht hk he hx h1 h2 h3 h4 h5 h6 h7).ok
                · cases hr
              · cases hr
            · rename_i id off n hx
              split at hr
              · rename_i k xs hid
                split at hr
                · rename_i hsz
                  subst hsz
                  split at hr
                  · rename_i l hh hs
                    cases hr
                    obtain ⟨l', h', q', h1, h2, h3, h4, h5, h6, h7, rfl, rfl⟩ := sl3_ok hs
                    exact (ok_sliceA hT ho ht hk he hx hid h1 h2 h3 h4 h5 h6 h7).ok
                  · cases hr
                · cases hr
              · cases hr
            · cases hr
          · cases hr
        · cases hr
      · cases hr
    · cases h
  case build =>
    split at h
    · rename_i ti ht
      split at h
      · rename_i fs hk
        split at h
        · rename_i hc
          split at h
          · rename_i rs hb; cases h; exact (ok_build hT ho ht hk hc.1 hb hc.2).ok
          · cases h
        · cases h
      · cases h
    · cases h
  case buildSlice =>
    split at h
    · rename_i ti ht
      split at h
      · rename_i e hk
        split at h
        · rename_i ei he
          split at h
          · rename_i xs hx
            split at h
            · rename_i hc; cases h; exact ok_buildSlice hT ho ht hk he hx hc.1 hc.2.1 hc.2.2.1 hc.2.2.2.1 hc.2.2.2.2
            · cases h
          · cases h
        · cases h
      · cases h
    · cases h
  case makeSlice =>
    split at h
    · rename_i ti ht
      split at h
      · rename_i e hk
        split at h
        · rename_i ei he
          split at h
          · rename_i hx hy
            split at h
            · rename_i hc
              obtain ⟨c1, c2, c3, c4, c5, c6, c7⟩ := hc
              cases h; exact ok_makeSlice hT ho ht hk he hx hy c1 c2 c3 c4 c5 c6 c7
            · cases h
          · cases h
        · cases h
      · cases h
    · cases h
  case call c =>
    unfold opCall at h
    split at h
    · rename_i p t hcal hargs htys
      have hc : c = { callee := .builtin .len, args := #[p], argTypes := #[t] } := by
        obtain ⟨a, b, d⟩ := c
        simp only at hcal hargs htys
        subst hcal
        rw [show b = #[p] from Array.ext' hargs, show d = #[t] from Array.ext' htys]
      rw [hc] at ho
      split at h
      · rename_i ti ht
        split at h
        · rename_i hk hx; cases h; exact (ok_len hT ho ht (by rw [hk, hx]) (by rw [hx]; rfl)).ok
        · rename_i hk hx; cases h; exact (ok_len hT ho ht (by rw [hk, hx]) (by rw [hx]; rfl)).ok
        · rename_i hk hx; cases h; exact (ok_len hT ho ht (by rw [hk, hx]) (by rw [hx]; rfl)).ok
        · rename_i hk hx; cases h; exact (ok_len (n := 0) hT ho ht (by rw [hk, hx]) (by rw [hx]; rfl)).ok
        · cases h
      · cases h
    · rename_i s p t t' hcal hargs htys
      split at h
      · rename_i htt
        subst htt
        have hc : c = { callee := .builtin .append, args := #[s, p], argTypes := #[t, t] } := by
          obtain ⟨a, b, d⟩ := c
          simp only at hcal hargs htys
          subst hcal
          rw [show b = #[s, p] from Array.ext' hargs, show d = #[t, t] from Array.ext' htys]
        rw [hc] at ho
        split at h
        · rename_i ti ht
          split at h
          · rename_i e hk
            split at h
            · rename_i ei he
              split at h
              · rename_i k ys hy
                split at h
                · rename_i hkk
                  obtain ⟨rfl, hz⟩ := hkk
                  split at h
                  · rename_i id n hs0
                    split at h
                    · rename_i k xs hid
                      split at h
                      · rename_i hc2
                        obtain ⟨rfl, c1, c2, c3, c4⟩ := hc2
                        cases h
                        exact ok_appendA' hT ho ht hk he hz hs0 (by rw [hX]; exact c1) hid c2 hy c3 c4
                      · cases h
                    · cases h
                  · rename_i hs0
                    split at h
                    · rename_i hc2
                      cases h
                      exact ok_appendN hT ho ht hk he hz hs0 hy hc2.1 hc2.2
                    · cases h
                  · cases h
                · cases h
              · cases h
            · cases h
          · cases h
        · cases h
      · cases h
    · cases h

theorem opB_ok (hT : TOK P T) {n0 : Nat} (hX : X.n0 = n0) {x : V} {st' : St} (h : opB T n0 st o.op = some (x, st')) : OKo P X st o x st' := by
  unfold opB at h
  split at h
  · rename_i r hr; cases h; exact opX_ok hT hX hr
  · split at h
    · rename_i hr; cases h; exact (opY_ok (L := allL o.op st) hT hr (rdB_all o.op st)).okL
    · exact opA_ok hT h

end
end Go.Ev
namespace Go.Ev
open Go

/-- operations as far as they go -/
def runB (T : Nat → Option TI) (n0 : Nat) (ops : Array Oper) : List Oper → St → Option St
  | [], st => some st
  | o :: rest, st => match gd ops st o.guard with
    | some true => match opB T n0 st o.op with
      | some (x, st') => runB T n0 ops rest ⟨setD o.dst x st'.tm, st'.ob⟩
      | none => none
    | some false => runB T n0 ops rest ⟨setD o.dst (.tup []) st.tm, st.ob⟩
    | none => none

/-- some operations lead from one state to another -/
def Runs (P : Program) (X : Ctx) (ops : Array Oper) (l : List Oper) (st st' : St) : Prop :=
  ∀ (rest : List Oper) (Q : Exit → St → Prop), WL P X ops rest st' Q → WL P X ops (l ++ rest) st Q

/-- what is known of a state may be less; ghost steps -/
def Le (X : Ctx) (s s' : St) : Prop :=
  ∀ w m cn a, Inv X w s.ob m cn → Sl X w m cn s.tm a → ∃ m' cn', Inv X w s'.ob m' cn' ∧ Sl X w m' cn' s'.tm a

/-- only some slots are kept -/
def memN : Nat → List Nat → Bool
  | _, [] => false
  | n, k :: ks => if n = k then true else memN n ks
def keepI : Nat → List Nat → List V → List V
  | _, _, [] => []
  | n, ks, x :: xs => (if memN n ks = true then x else .junk) :: keepI (n + 1) ks xs

def St.keep (ks : List Nat) (s : St) : St := ⟨keepI 0 ks s.tm, s.ob⟩

def St.mrg (b : Bool) (s1 s0 : St) : St := ⟨List.zipWith (fun x y => bif b then x else y) s1.tm s0.tm, s1.ob⟩

@[simp] theorem cond_vbool (b x y : Bool) : (bif b then V.bool x else V.bool y) = V.bool (bif b then x else y) := by cases b <;> rfl
@[simp] theorem cond_vint (b : Bool) (k : IntKind) (x y : Int) : (bif b then V.int k x else V.int k y) = V.int k (bif b then x else y) := by cases b <;> rfl
@[simp] theorem cond_vstr (b : Bool) (x y : List UInt8) : (bif b then V.str x else V.str y) = V.str (bif b then x else y) := by cases b <;> rfl
@[simp] theorem cond_vlst (b : Bool) (o : Bool) (k : Nat) (x y : List V) : (bif b then V.lst o k x else V.lst o k y) = V.lst o k (bif b then x else y) := by cases b <;> rfl
@[simp] theorem cond_vagg (b : Bool) (x y : V) (xs ys : List V) (h : xs.length = ys.length) : (bif b then V.agg (x :: xs) else V.agg (y :: ys)) = V.agg (List.zipWith (fun x y => bif b then x else y) (x :: xs) (y :: ys)) := by
  cases b
  · simp only [cond_false]
    congr 1
    have : ∀ (l1 l2 : List V), l1.length = l2.length → l2 = List.zipWith (fun x y => y) l1 l2 := by
      intro l1
      induction l1 with
      | nil => intro l2 h; cases l2 <;> simp_all
      | cons a l1 ih => intro l2 h; cases l2 with
        | nil => simp at h
        | cons c l2 => simp only [List.zipWith_cons_cons]; rw [← ih l2 (by simpa using h)]
    exact this _ _ (by simp [h])
  · simp only [cond_true]
    congr 1
    have : ∀ (l1 l2 : List V), l1.length = l2.length → l1 = List.zipWith (fun x y => x) l1 l2 := by
      intro l1
      induction l1 with
      | nil => intro l2 h; simp
      | cons a l1 ih => intro l2 h; cases l2 with
        | nil => simp at h
        | cons c l2 => simp only [List.zipWith_cons_cons]; rw [← ih l2 (by simpa using h)]
    exact this _ _ (by simp [h])

section
variable {P : Program} {X : Ctx} {T : Nat → Option TI} {ops : Array Oper} {l : List Oper} {st s1 s2 : St} {Q : Exit → St → Prop}

theorem Runs.run (hT : TOK P T) {n0 : Nat} (hX : X.n0 = n0) : ∀ {l : List Oper} {st st' : St}, runB T n0 ops l st = some st' → Runs P X ops l st st'
  | [], st, st', h => by simp only [runB] at h; cases h; exact fun rest Q hk => hk
  | o :: l, st, st', h => by
    simp only [runB] at h
    split at h
    · rename_i hg
      split at h
      · rename_i x st2 hx
        exact fun rest Q hk => WL_op (opB_ok hT hX hx) hg (Runs.run hT hX h rest Q hk)
      · cases h
    · rename_i hg
      exact fun rest Q hk => WL_skip hg (Runs.run hT hX h rest Q hk)
    · cases h

theorem Runs.nil : Runs P X ops [] st st := fun _ _ hk => hk

theorem Runs.trans (k : Nat) (h1 : Runs P X ops (l.take k) st s1) (h2 : Runs P X ops (l.drop k) s1 s2) : Runs P X ops l st s2 := by
  intro rest Q hk
  have := h1 (l.drop k ++ rest) Q (h2 rest Q hk)
  rwa [← List.append_assoc, List.take_append_drop] at this

theorem Runs.step (k : Nat) (hT : TOK P T) {n0 : Nat} (hX : X.n0 = n0) (h1 : runB T n0 ops (l.take k) st = some s1) (h2 : Runs P X ops (l.drop k) s1 s2) : Runs P X ops l st s2 :=
  Runs.trans k (Runs.run hT hX h1) h2

theorem W_reg {id : Nat} (h : Runs P X ops ops.toList st s1) (hq : Q .normal s1) : W P X (.region id ops false) st Q := by
  refine W_region ?_
  have := h [] Q (WL_nil hq)
  rwa [List.append_nil] at this

/-- region, then the rest -/
theorem W_rseq {id : Nat} {y : Code} (h : Runs P X ops ops.toList st s1) (hk : W P X y s1 Q) : W P X (.seq (.region id ops false) y) st Q :=
  W_seq (W_reg h hk)

theorem W_le {c : Code} (h : Le X st s1) (hk : W P X c s1 Q) : W P X c st Q := by
  intro w m cn a hi hs hd
  obtain ⟨m', cn', hi', hs'⟩ := h w m cn a hi hs
  exact hk w m' cn' a hi' hs' hd

theorem WL_le (h : Le X st s1) (hk : WL P X ops l s1 Q) : WL P X ops l st Q := by
  intro w m cn a hi hs hd
  obtain ⟨m', cn', hi', hs'⟩ := h w m cn a hi hs
  exact hk w m' cn' a hi' hs' hd

theorem Runs.le (h : Le X st s1) (hk : Runs P X ops l s1 s2) : Runs P X ops l st s2 := fun rest Q hq => WL_le h (hk rest Q hq)

theorem Le.refl : Le X st st := fun _ m cn _ hi hs => ⟨m, cn, hi, hs⟩
theorem Le.of_eq (h : st = s1) : Le X st s1 := h ▸ Le.refl
theorem Le.trans {s3 : St} (h1 : Le X st s1) (h2 : Le X s1 s3) : Le X st s3 := fun w m cn a hi hs =>
  let ⟨m', cn', hi', hs'⟩ := h1 w m cn a hi hs
  h2 w m' cn' a hi' hs'

theorem keepI_R {w : World} {fr : Nat → Prop} {m : Mp} : ∀ (xs : List V) (n : Nat) (ks : List Nat) (us : List Value), R w fr m (.list xs us) z0 → R w fr m (.list (keepI n ks xs) us) z0
  | [], n, ks, us, h => by simpa [keepI] using h
  | x :: xs, n, ks, us, h => by
    generalize hz : z0 = c at h
    cases h with
    | lcons h1 h2 he =>
      rename_i u us c1 c2
      have e1 : c1 = z0 := funext fun y => by have := he y; rw [← hz] at this; simp [z0] at this ⊢; omega
      have e2 : c2 = z0 := funext fun y => by have := he y; rw [← hz] at this; simp [z0] at this ⊢; omega
      subst e1; subst e2
      unfold keepI
      split
      · exact .lcons h1 (keepI_R xs (n + 1) ks us h2) (fun _ => by rw [← hz]; simp [z0])
      · exact .lcons .junk (keepI_R xs (n + 1) ks us h2) (fun _ => by rw [← hz]; simp [z0])

theorem Le.keep (ks : List Nat) (s : St) : Le X s (s.keep ks) := fun _ m cn _ hi hs => ⟨m, cn, hi, keepI_R _ 0 ks _ hs⟩

theorem zip_same (f : V → V → V) (h : ∀ x y, f x y = x) : ∀ (l1 l2 : List V), l1.length = l2.length → List.zipWith f l1 l2 = l1 := by
  intro l1
  induction l1 with
  | nil => intro l2 h; simp
  | cons a l1 ih => intro l2 hl; cases l2 with
    | nil => simp at hl
    | cons c l2 => simp only [List.zipWith_cons_cons, h]; rw [ih l2 (by simpa using hl)]

theorem zip_same' (f : V → V → V) (h : ∀ x y, f x y = y) : ∀ (l1 l2 : List V), l1.length = l2.length → List.zipWith f l1 l2 = l2 := by
  intro l1
  induction l1 with
  | nil => intro l2 h; cases l2 <;> simp_all
  | cons a l1 ih => intro l2 hl; cases l2 with
    | nil => simp at hl
    | cons c l2 => simp only [List.zipWith_cons_cons, h]; rw [ih l2 (by simpa using hl)]

theorem mrg_true {s1 s0 : St} (h : s1.tm.length = s0.tm.length) : St.mrg true s1 s0 = s1 := by
  obtain ⟨t1, o1⟩ := s1
  simp only [St.mrg, cond_true]
  congr 1
  exact zip_same _ (fun _ _ => rfl) _ _ h

theorem mrg_false {s1 s0 : St} (h : s1.tm.length = s0.tm.length) (ho : s1.ob = s0.ob) : St.mrg false s1 s0 = s0 := by
  obtain ⟨t1, o1⟩ := s1
  obtain ⟨t2, o2⟩ := s0
  simp only at h ho
  subst ho
  simp only [St.mrg, cond_false]
  congr 1
  exact zip_same' _ (fun _ _ => rfl) _ _ h

theorem set_same {tm : List V} {d : Nat} {x : V} (h : tm[d]? = some x) : tm.set d x = tm := by
  apply List.ext_getElem?
  intro i
  rw [List.getElem?_set]
  split
  · rename_i hi
    subst hi
    have := (List.getElem?_eq_some_iff.1 h).1
    rw [if_pos this, h]
  · rfl

/-- a part that hangs on a symbolic bool, in both ways, and the two ends in one -/
theorem Runs.mrg (k d : Nat) {b : Bool} {s0 : St} (hd : st.tm[d]? = some (.bool b))
    (h1 : b = true → Runs P X ops (l.take k) ⟨st.tm.set d (.bool true), st.ob⟩ s1) (h0 : b = false → Runs P X ops (l.take k) ⟨st.tm.set d (.bool false), st.ob⟩ s0)
    (hl : s1.tm.length = s0.tm.length) (ho : s1.ob = s0.ob) (hk : Runs P X ops (l.drop k) (St.mrg b s1 s0) s2) : Runs P X ops l st s2 := by
  refine Runs.trans k ?_ hk
  have hset : ∀ c : Bool, b = c → (⟨st.tm.set d (.bool c), st.ob⟩ : St) = st := fun c hc => by
    subst hc
    rw [set_same hd]
  cases b with
  | true => rw [mrg_true hl]; have := h1 rfl; rw [hset true rfl] at this; exact this
  | false => rw [mrg_false hl ho]; have := h0 rfl; rw [hset false rfl] at this; exact this

/-- the same for a condition whose two branches come together -/
theorem W_condM {c : Operand} {x y z : Code} {b : Bool} {s0 : St} (hc : val st c = .bool b)
    (h1 : b = true → W P X x st (thenQ (fun s => s = s1) Q)) (h0 : b = false → W P X y st (thenQ (fun s => s = s0) Q))
    (hl : s1.tm.length = s0.tm.length) (ho : s1.ob = s0.ob) (hk : W P X z (St.mrg b s1 s0) Q) : W P X (.seq (.cond c x y) z) st Q := by
  refine W_seq (W_cond hc (fun hb => W_mono (h1 hb) ?_) (fun hb => W_mono (h0 hb) ?_))
  · intro e s
    cases e with
    | normal => intro hs; simp only [thenQ] at hs ⊢; subst hs; rw [hb, mrg_true hl] at hk; exact hk
    | _ => exact fun h => h
  · intro e s
    cases e with
    | normal => intro hs; simp only [thenQ] at hs ⊢; subst hs; rw [hb, mrg_false hl ho] at hk; exact hk
    | _ => exact fun h => h

/-- a loop over a family of states -/
theorem W_loopF {α : Type} {c : Code} (f : α → St) (I : α → Prop) (μ : α → Nat) (a0 : α) (h0 : Le X st (f a0)) (hI : I a0)
    (round : ∀ a, I a → W P X c (f a) (thenQ (fun s' => ∃ a', Le X s' (f a') ∧ I a' ∧ μ a' < μ a) Q)) : W P X (.loop c) st Q := by
  refine W_le h0 ?_
  intro w m cn a hi hs hd
  intro b k cs
  have key : ∀ n x, μ x = n → I x → ∀ w m cn a, Inv X w (f x).ob m cn → Sl X w m cn (f x).tm a → a.defers = [] →
      ∃ e a' w', post X Q e a' w' ∧ Arrives P (lone (b.at a (.code c :: .inLoop c :: k)) cs w) b k cs e a' w' := by
    intro n
    induction n using Nat.strongRecOn with
    | _ n ih =>
      intro x hn hI w m cn a hi hs hd
      obtain ⟨e, a₁, w₁, ⟨s₁, m₁, cn₁, hq, hi₁, hs₁, hd₁⟩, harr⟩ := round x hI w m cn a hi hs hd b (.inLoop c :: k) cs
      cases e with
      | normal =>
        obtain ⟨x', hle, hI₁, hlt⟩ := hq
        obtain ⟨m₂, cn₂, hi₂, hs₂⟩ := hle _ _ _ _ hi₁ hs₁
        obtain ⟨e₂, a₂, w₂, hq₂, harr₂⟩ := ih (μ x') (hn ▸ hlt) x' rfl hI₁ w₁ m₂ cn₂ a₁ hi₂ hs₂ hd₁
        exact ⟨e₂, a₂, w₂, hq₂, .of_steps (Steps.trans harr (.one step_inLoop)) harr₂⟩
      | exit id => exact ⟨_, a₁, w₁, ⟨s₁, m₁, cn₁, hq, hi₁, hs₁, hd₁⟩, .pass (x := .inLoop c) rfl (fun _ _ => .inl (by simp)) harr⟩
      | goto l => exact ⟨_, a₁, w₁, ⟨s₁, m₁, cn₁, hq, hi₁, hs₁, hd₁⟩, .pass (x := .inLoop c) rfl (fun _ _ => .inl (by simp)) harr⟩
      | ret => exact ⟨_, a₁, w₁, ⟨s₁, m₁, cn₁, hq, hi₁, hs₁, hd₁⟩, .pass (x := .inLoop c) rfl (fun _ _ => .inl (by simp)) harr⟩
      | panic ch => exact ⟨_, a₁, w₁, ⟨s₁, m₁, cn₁, hq, hi₁, hs₁, hd₁⟩, .pass (x := .inLoop c) rfl (fun _ _ => .inl (by simp)) harr⟩
      | outgrown => exact ⟨_, a₁, w₁, ⟨s₁, m₁, cn₁, hq, hi₁, hs₁, hd₁⟩, .pass (x := .inLoop c) rfl (fun _ _ => .inl (by simp)) harr⟩
  obtain ⟨e, a', w', hq, harr⟩ := key _ a0 rfl hI w m cn a hi hs hd
  exact ⟨e, a', w', hq, .of_steps (.one step_loop) harr⟩

/-- what a function gives back where it ends -/
def doneR (T : Nat → Option TI) (fn : Func) (n0 : Nat) (st : St) : Option (V × List Ob) :=
  match resL T st fn.results.toList with
  | some xs => match takeV n0 st.ob (one? xs) with
    | some (r, ob2) => if n0 ≤ ob2.length ∧ (ob2.take n0).all (limO n0) = true ∧ r.lim n0 = true then some (r, ob2.take n0) else none
    | none => none
  | none => none

theorem W_retR {fn : Func} {n0 : Nat} {r r' : V} {ob' ob'' : List Ob} (h : doneR T fn n0 st = some (r', ob'')) (hr : Wk r' r) (ho : ob'' = ob') : Done T fn n0 r ob' .ret st := by
  unfold doneR at h
  split at h
  · rename_i xs hx
    split at h
    · rename_i r2 ob2 h2
      split at h
      · rename_i hc
        cases h
        exact ⟨.inl rfl, xs, _, ob2, hx, h2, hr, hc.1, ho, by rw [← ho]; exact hc.2.1, hc.2.2⟩
      · cases h
    · cases h
  · cases h

theorem Wk.of_eq {x y : V} (h : x = y) : Wk x y := h ▸ Wk.refl x

end
end Go.Ev
namespace Go.Ev
open Go

/-! a value as one who only reads sees it: all memory is frozen -/

mutual
def V.fz : V → V
  | .lst true k xs => .lst false k (fzL xs)
  | .agg xs => .agg (fzL xs)
  | .tup xs => .tup (fzL xs)
  | .clo f xs ys => .clo f (fzL xs) (fzL ys)
  | .ifc t x => .ifc t x.fz
  | .ptr _ _ _ => .junk
  | .arr _ _ _ => .junk
  | .bx _ x => .fp x.fz.cells
  | x => x
def fzL : List V → List V
  | [] => []
  | x :: xs => x.fz :: fzL xs
end

theorem fzL_map (xs : List V) : fzL xs = xs.map V.fz := by
  induction xs with
  | nil => rfl
  | cons x xs ih => simp [fzL, ih]

theorem fzL_append (xs ys : List V) : fzL (xs ++ ys) = fzL xs ++ fzL ys := by simp [fzL_map]
theorem fzL_length (xs : List V) : (fzL xs).length = xs.length := by simp [fzL_map]

theorem fz_cells (x : V) : x.fz.cells = fzL x.cells := by
  cases x with
  | lst o k xs => cases o <;> rfl
  | _ => rfl

theorem fzL_flat (xs : List V) : flat (fzL xs) = fzL (flat xs) := by
  induction xs with
  | nil => rfl
  | cons x xs ih => rw [fzL, flat_cons, flat_cons, ih, fzL_append, fz_cells]

theorem uni_fzL {k : Nat} {xs : List V} (h : uni k xs) : uni k (fzL xs) := by
  intro x hx
  rw [fzL_map] at hx
  obtain ⟨y, hy, rfl⟩ := List.mem_map.1 hx
  rw [fz_cells, fzL_length]
  exact h y hy

def J.fz : J → J
  | .one x u => .one x.fz u
  | .cells b o xs => .cells b o (fzL xs)
  | .list xs us => .list (fzL xs) us

/-- with the references to objects seen through -/
def seen (ob : List Ob) (id : Nat) : List V := match ob[id]? with
  | some (some (_, xs)) => xs
  | _ => []
def seenK (ob : List Ob) (id : Nat) : Nat := match ob[id]? with
  | some (some (k, _)) => k
  | _ => 0

mutual
def V.bor (ob : List Ob) : V → V
  | .arr id o n => if o + n ≤ (seen ob id).length then .lst false (seenK ob id) (fzL (((seen ob id).drop o).take n)) else .junk
  | .ptr id i j => if i < (seen ob id).length ∧ j ≤ ((seen ob id).getD i .junk).cells.length then .fp (fzL (((seen ob id).getD i .junk).cells.drop j)) else .junk
  | .lst true k xs => .lst false k (fzL xs)
  | .agg xs => .agg (borL ob xs)
  | .tup xs => .tup (borL ob xs)
  | .clo f xs ys => .clo f (borL ob xs) (borL ob ys)
  | .ifc t x => .ifc t (x.bor ob)
  | x => x
def borL (ob : List Ob) : List V → List V
  | [] => []
  | x :: xs => x.bor ob :: borL ob xs
end

section
variable {w : World} {fr fr' : Nat → Prop} {m : Mp}

theorem R.fz (hf : ∀ b, b < w.heap.size → fr b → fr' b) {j : J} {c : Cnt} (h : R w fr m j c) : (∀ b, b < w.heap.size → 0 < c b → fr' b) → ∀ m', R w fr' m' j.fz z0 := by
  induction h with
  | junk => intro _ _; exact .junk
  | bool => intro _ _; exact .bool _
  | int => intro _ _; exact .int _ _
  | str => intro _ _; exact .str _
  | raw u h => intro _ _; exact .raw u h
  | agg _ ih => intro hc m'; exact .agg (ih hc m')
  | tup _ ih => intro hc m'; exact .tup (ih hc m')
  | @nil m o k => intro _ _; cases o <;> exact .nil
  | @nilz m o k a => intro _ _; cases o <;> exact .nilz
  | frz hl hb hk hn h _ =>
    intro _ m'
    exact .frz hl (hf _ hl hb) hk hn (h.mono (Nat.le_refl _) (fun b hb h => ⟨hf b hb h, rfl⟩) (fun _ _ => rfl) (.inr rfl) (fun _ _ h => by simp [noIds] at h))
  | @own m k xs b cap cur e c c' hb hs hk hn h hc ih =>
    intro hq m'
    have hlt : b < w.heap.size := (Array.getElem?_eq_some_iff.1 hb).1
    have := ih (fun x hx hcx => hq x hx (by rw [hc]; omega)) noIds
    show R w fr' m' (.one (.lst false k (fzL xs)) _) z0
    rw [← fzL_length xs] at hn ⊢
    refine .frz hlt (hq b hlt (by rw [hc]; simp)) (uni_fzL hk) hn ?_
    rw [fzL_flat]
    exact this
  | @bx m k x b cur e c c' hb hs hk h hc ih =>
    intro hq m'
    have hlt : b < w.heap.size := (Array.getElem?_eq_some_iff.1 hb).1
    have := ih (fun x hx hcx => hq x hx (by rw [hc]; omega)) noIds
    show R w fr' m' (.one (.fp x.fz.cells) _) z0
    refine .fp hlt (hq b hlt (by rw [hc]; simp)) ?_
    rw [fz_cells]
    simpa [J.fz] using this
  | fp hl hb h _ =>
    intro _ m'
    exact .fp hl (hf _ hl hb) (h.mono (Nat.le_refl _) (fun b hb h => ⟨hf b hb h, rfl⟩) (fun _ _ => rfl) (.inr rfl) (fun _ _ h => by simp [noIds] at h))
  | fmap hl hb he h => intro _ _; exact .fmap hl (hf _ hl hb) he h
  | ptr h => intro _ _; exact .junk
  | arr h => intro _ _; exact .junk
  | arrz h => intro _ _; exact .junk
  | arrn => intro _ _; exact .junk
  | clo h1 h2 he ih1 ih2 =>
    intro hq m'
    exact .clo (ih1 (fun b hb h => hq b hb (by rw [he]; omega)) m') (ih2 (fun b hb h => hq b hb (by rw [he]; omega)) m') (fun _ => by simp [z0])
  | ifc h ih => intro hq m'; exact .ifc (ih hq m')
  | cnil => intro _ _; exact .cnil
  | ccons hc h1c h1 h2 he ih1 ih2 =>
    intro hq m'
    exact .ccons hc h1c (ih1 (fun b hb h => hq b hb (by rw [he]; omega)) m') (ih2 (fun b hb h => hq b hb (by rw [he]; omega)) m') (fun _ => by simp [z0])
  | lnil => intro _ _; exact .lnil
  | lcons h1 h2 he ih1 ih2 =>
    intro hq m'
    exact .lcons (ih1 (fun b hb h => hq b hb (by rw [he]; omega)) m') (ih2 (fun b hb h => hq b hb (by rw [he]; omega)) m') (fun _ => by simp [z0])

variable {X : Ctx} {ob : List Ob} {cn : Nat → Cnt}

def J.bor (ob : List Ob) : J → J
  | .one x u => .one (x.bor ob) u
  | .cells b o xs => .cells b o (borL ob xs)
  | .list xs us => .list (borL ob xs) us

theorem seen_some {id : Nat} (h : (seen ob id) ≠ []) : ob[id]? = some (some (seenK ob id, seen ob id)) := by
  unfold seen seenK at *
  split at h
  · rename_i h1; rw [h1]
  · exact absurd rfl h

theorem bor1R (hi : Inv X w ob m cn) (hf : ∀ b, b < w.heap.size → fr' b) {m' : Mp} : ∀ {x : V} {u : Value} {c : Cnt}, R w (frz X cn) m (.one x u) c → (∀ b, c b = 0) →
    (∀ xs us c, R w (frz X cn) m (.list xs us) c → (∀ b, c b = 0) → (∀ y ∈ xs, SizeOf.sizeOf y < SizeOf.sizeOf x) → R w fr' m' (.list (borL ob xs) us) z0) →
    (∀ y u c, SizeOf.sizeOf y < SizeOf.sizeOf x → R w (frz X cn) m (.one y u) c → (∀ b, c b = 0) → R w fr' m' (.one (y.bor ob) u) z0) → R w fr' m' (.one (x.bor ob) u) z0 := by
  intro x u c h hc ihL ih1
  have hf' : ∀ b, b < w.heap.size → frz X cn b → fr' b := fun b hb _ => hf b hb
  cases h with
  | junk => exact .junk
  | bool => exact .bool _
  | int => exact .int _ _
  | str => exact .str _
  | raw u h => exact .raw _ h
  | agg h => exact .agg (ihL _ _ _ h hc (fun y hy => by have := List.sizeOf_lt_of_mem hy; simp only [V.agg.sizeOf_spec]; omega))
  | tup h => exact .tup (ihL _ _ _ h hc (fun y hy => by have := List.sizeOf_lt_of_mem hy; simp only [V.tup.sizeOf_spec]; omega))
  | @nil _ o k => cases o <;> exact .nil
  | @nilz _ o k a => cases o <;> exact .nilz
  | frz hl hb hk hn h =>
    exact .frz hl (hf _ hl) hk hn (h.mono (Nat.le_refl _) (fun b hb h => ⟨hf b hb, rfl⟩) (fun _ _ => rfl) (.inr rfl) (fun _ _ h => by simp [noIds] at h))
  | own hb hs hk hn h hcc => have := hc; rename_i b _ _ _ _; have h1 := hcc b; rw [hc] at h1; simp at h1
  | bx hb hs hk h hcc => have := hc; rename_i b _ _ _; have h1 := hcc b; rw [hc] at h1; simp at h1
  | fp hl hb h =>
    exact .fp hl (hf _ hl) (h.mono (Nat.le_refl _) (fun b hb h => ⟨hf b hb, rfl⟩) (fun _ _ => rfl) (.inr rfl) (fun _ _ h => by simp [noIds] at h))
  | fmap hl hb he h => exact .fmap hl (hf _ hl) he h
  | @ptr _ id i j b k h =>
    simp only [V.bor]
    split
    · rename_i hcd
      have hne : seen ob id ≠ [] := by intro h0; rw [h0] at hcd; simp at hcd
      obtain ⟨rfl, cur, e, c1, g1, g2, g3, g4, g5⟩ := hi.object (seen_some hne) h
      have hlt : b < w.heap.size := (Array.getElem?_eq_some_iff.1 g1).1
      obtain ⟨c1, c2, c3, _, h2, _, _⟩ := R.elem g4 g2 hcd.1
      rw [← List.take_append_drop j ((seen ob id).getD i .junk).cells] at h2
      obtain ⟨c4, c5, _, h3, _⟩ := R.split h2
      rw [List.length_take, Nat.min_eq_left hcd.2] at h3
      exact .fp hlt (hf _ hlt) (R.fz hf' h3 (fun b hb _ => hf b hb) noIds)
    · exact .junk
  | @arr _ id o n b k cap cur e h hb hn hcap =>
    simp only [V.bor]
    split
    · rename_i hcd
      by_cases hn0 : n = 0
      · subst hn0
        have hlt : b < w.heap.size := hi.mlt _ _ h
        simp only [List.take_zero, fzL]
        exact .frz (xs := []) hlt (hf _ hlt) (fun x hx => by simp at hx) (by simp) .cnil
      · have hne : seen ob id ≠ [] := by intro h0; rw [h0] at hcd; simp at hcd; omega
        obtain ⟨rfl, cur, e, c1, g1, g2, g3, g4, g5⟩ := hi.object (seen_some hne) h
        have hlt : b < w.heap.size := (Array.getElem?_eq_some_iff.1 g1).1
        rw [flat_take o] at g4
        obtain ⟨c1, c2, _, q2, q3⟩ := R.split g4
        rw [flat_take_length g2 (by omega), Nat.zero_add, flat_take n] at q2
        obtain ⟨c3, c4, q4, _, q6⟩ := R.split q2
        have hlen : (fzL (((seen ob id).drop o).take n)).length = n := by rw [fzL_length, List.length_take, List.length_drop]; omega
        have := R.frz (w := w) (fr := fr') (m := m') (k := seenK ob id) (xs := fzL (((seen ob id).drop o).take n)) (b := b) (off := o * seenK ob id) (cap := cap) hlt (hf _ hlt) (uni_fzL (uni_take (uni_drop g2 o) n)) (by rw [hlen]; exact hn)
          (by rw [fzL_flat]; exact R.fz hf' q4 (fun b hb _ => hf b hb) noIds)
        rw [hlen] at this
        exact this
    · exact .junk
  | @arrz _ id o b k cap cur e off h hb ho =>
    simp only [V.bor]
    split
    · have hlt : b < w.heap.size := hi.mlt _ _ h
      simp only [List.take_zero, fzL]
      exact .frz (xs := []) hlt (hf _ hlt) (fun x hx => by simp at hx) (by simp) .cnil
    · exact .junk
  | @arrn _ id o =>
    simp only [V.bor]
    split
    · rename_i ad _
      simp only [List.take_zero, fzL]
      cases ad <;> first | exact .nil | exact .nilz
    · exact .junk
  | @clo _ f xs us ys vs c d e h1 h2 he =>
    exact .clo (ihL _ _ _ h1 (fun b => by have := he b; have := hc b; omega) (fun y hy => by have := List.sizeOf_lt_of_mem hy; simp only [V.clo.sizeOf_spec]; omega))
      (ihL _ _ _ h2 (fun b => by have := he b; have := hc b; omega) (fun y hy => by have := List.sizeOf_lt_of_mem hy; simp only [V.clo.sizeOf_spec]; omega)) (fun _ => by simp [z0])
  | @ifc _ t x u c h => exact .ifc (ih1 _ _ _ (by simp only [V.ifc.sizeOf_spec]; omega) h hc)

theorem borListR (hi : Inv X w ob m cn) (hf : ∀ b, b < w.heap.size → fr' b) {m' : Mp} : ∀ {xs : List V} {us : List Value} {c : Cnt}, R w (frz X cn) m (.list xs us) c → (∀ b, c b = 0) → (∀ y ∈ xs, ∀ u c, R w (frz X cn) m (.one y u) c → (∀ b, c b = 0) → R w fr' m' (.one (y.bor ob) u) z0) →
    R w fr' m' (.list (borL ob xs) us) z0 := by
  intro xs
  induction xs with
  | nil => intro us c h hc _; cases h; exact .lnil
  | cons x xs ih =>
    intro us c h hc hy
    cases h with
    | lcons h1 h2 he =>
      exact .lcons (hy x (by simp) _ _ h1 (fun b => by have := he b; have := hc b; omega)) (ih h2 (fun b => by have := he b; have := hc b; omega) (fun y hm => hy y (by simp [hm]))) (fun _ => by simp [z0])

theorem borR (hi : Inv X w ob m cn) (hf : ∀ b, b < w.heap.size → fr' b) {m' : Mp} (n : Nat) : ∀ {x : V} {u : Value} {c : Cnt}, SizeOf.sizeOf x = n → R w (frz X cn) m (.one x u) c → (∀ b, c b = 0) → R w fr' m' (.one (x.bor ob) u) z0 := by
  induction n using Nat.strongRecOn with
  | _ n ih =>
    intro x u c hn h hc
    refine bor1R hi hf h hc ?_ ?_
    · intro xs us c h hc hlt
      exact borListR hi hf h hc (fun y hy u c h hc => ih _ (hn ▸ hlt y hy) rfl h hc)
    · intro y u c hlt h hc
      exact ih _ (hn ▸ hlt) rfl h hc

end

mutual
/-- nothing frozen in it, and no reference -/
def V.solid : V → Bool
  | .lst false _ _ => false
  | .lst true _ xs => solidL xs
  | .bx _ x => x.solid
  | .agg xs => solidL xs
  | .tup xs => solidL xs
  | .clo _ xs ys => solidL xs && solidL ys
  | .ifc _ x => x.solid
  | .fp _ => false
  | .fmap _ => false
  | .ptr _ _ _ => false
  | .arr _ _ _ => false
  | _ => true
def solidL : List V → Bool
  | [] => true
  | x :: xs => x.solid && solidL xs
end

theorem solidL_all (xs : List V) : solidL xs = xs.all V.solid := by
  induction xs with
  | nil => rfl
  | cons x xs ih => simp [solidL, ih]

theorem solidL_append (xs ys : List V) : solidL (xs ++ ys) = (solidL xs && solidL ys) := by simp [solidL_all]

theorem solidL_flat {xs : List V} (h : solidL xs = true) : solidL (flat xs) = true := by
  induction xs with
  | nil => rfl
  | cons x xs ih =>
    simp only [solidL, Bool.and_eq_true] at h
    rw [flat_cons, solidL_append, ih h.2, Bool.and_true]
    cases x <;> simp_all [V.cells, solidL, V.solid]

theorem R.solid {w : World} {fr fr' : Nat → Prop} {m : Mp} {j : J} {c : Cnt} (h : R w fr m j c) : (match j with | .one x _ => x.solid = true | .cells _ _ xs => solidL xs = true | .list xs _ => solidL xs = true) → ∀ m', R w fr' m' j c := by
  induction h with
  | junk => intro _ _; exact .junk
  | bool => intro _ _; exact .bool _
  | int => intro _ _; exact .int _ _
  | str => intro _ _; exact .str _
  | raw u h => intro _ _; exact .raw u h
  | agg _ ih => intro hp m'; exact .agg (ih (by simpa [V.solid] using hp) m')
  | tup _ ih => intro hp m'; exact .tup (ih (by simpa [V.solid] using hp) m')
  | nil => intro _ _; exact .nil
  | nilz => intro _ _; exact .nilz
  | frz => intro hp; simp [V.solid] at hp
  | own hb hs hk hn h hc ih => intro hp m'; exact .own hb hs hk hn (ih (solidL_flat (by simpa [V.solid] using hp)) noIds) hc
  | @bx m k x b cur e c c' hb hs hk h hc ih => intro hp m'; exact .bx hb hs hk (ih (solidL_flat (xs := [x]) (by simpa [V.solid, solidL] using hp)) noIds) hc
  | fp => intro hp; simp [V.solid] at hp
  | fmap => intro hp; simp [V.solid] at hp
  | ptr h => intro hp; simp [V.solid] at hp
  | arr h => intro hp; simp [V.solid] at hp
  | arrz h => intro hp; simp [V.solid] at hp
  | arrn => intro hp; simp [V.solid] at hp
  | clo h1 h2 he ih1 ih2 =>
    intro hp m'
    simp only [V.solid, Bool.and_eq_true] at hp
    exact .clo (ih1 hp.1 m') (ih2 hp.2 m') he
  | ifc h ih => intro hp m'; exact .ifc (ih (by simpa [V.solid] using hp) m')
  | cnil => intro _ _; exact .cnil
  | ccons hc h1c h1 h2 he ih1 ih2 =>
    intro hp m'
    simp only [solidL, Bool.and_eq_true] at hp
    exact .ccons hc h1c (ih1 hp.1 m') (ih2 hp.2 m') he
  | lnil => intro _ _; exact .lnil
  | lcons h1 h2 he ih1 ih2 =>
    intro hp m'
    simp only [solidL, Bool.and_eq_true] at hp
    exact .lcons (ih1 hp.1 m') (ih2 hp.2 m') he

mutual
theorem solid_mapId (g : Nat → Option Nat) : ∀ x : V, x.solid = true → x.mapId g = x
  | .junk, _ => rfl
  | .bool _, _ => rfl
  | .int _ _, _ => rfl
  | .str _, _ => rfl
  | .raw _, _ => rfl
  | .agg xs, h => by simp only [V.mapId]; rw [solid_mapL g xs (by simpa [V.solid] using h)]
  | .tup xs, h => by simp only [V.mapId]; rw [solid_mapL g xs (by simpa [V.solid] using h)]
  | .lst _ _ _, _ => rfl
  | .bx _ _, _ => rfl
  | .fp _, _ => rfl
  | .fmap _, h => by simp [V.solid] at h
  | .ptr _ _ _, h => by simp [V.solid] at h
  | .arr _ _ _, h => by simp [V.solid] at h
  | .clo f xs ys, h => by
    simp only [V.solid, Bool.and_eq_true] at h
    simp only [V.mapId]; rw [solid_mapL g xs h.1, solid_mapL g ys h.2]
  | .ifc t x, h => by simp only [V.mapId]; rw [solid_mapId g x (by simpa [V.solid] using h)]
theorem solid_mapL (g : Nat → Option Nat) : ∀ xs : List V, solidL xs = true → mapL g xs = xs
  | [], _ => rfl
  | x :: xs, h => by
    simp only [solidL, Bool.and_eq_true] at h
    simp only [mapL]; rw [solid_mapId g x h.1, solid_mapL g xs h.2]
end

end Go.Ev
namespace Go.Ev
open Go

section
variable {P : Program} {X : Ctx} {T : Nat → Option TI} {ops : Array Oper} {rest l l' : List Oper} {st s1 s2 : St} {Q : Exit → St → Prop} {o : Oper}

/-- operations up to the first one that does not go by itself -/
def runU (T : Nat → Option TI) (n0 : Nat) (ops : Array Oper) : List Oper → St → List Oper × St
  | [], st => ([], st)
  | o :: rest, st => match gd ops st o.guard with
    | some true => match opB T n0 st o.op with
      | some (x, st') => runU T n0 ops rest ⟨setD o.dst x st'.tm, st'.ob⟩
      | none => (o :: rest, st)
    | some false => runU T n0 ops rest ⟨setD o.dst (.tup []) st.tm, st.ob⟩
    | none => (o :: rest, st)

theorem Runs.upto (hT : TOK P T) {n0 : Nat} (hX : X.n0 = n0) : ∀ {l l' : List Oper} {st s1 s2 : St}, runU T n0 ops l st = (l', s1) → Runs P X ops l' s1 s2 → Runs P X ops l st s2
  | [], l', st, s1, s2, h, hk => by simp only [runU] at h; cases h; exact hk
  | o :: l, l', st, s1, s2, h, hk => by
    simp only [runU] at h
    split at h
    · rename_i hg
      split at h
      · rename_i x st2 hx
        exact fun rest Q hq => WL_op (opB_ok hT hX hx) hg (Runs.upto hT hX h hk rest Q hq)
      · cases h; exact hk
    · rename_i hg
      exact fun rest Q hq => WL_skip hg (Runs.upto hT hX h hk rest Q hq)
    · cases h; exact hk

/-- what stands behind a call -/
def callEnd (st : St) (d : Option Tmp) (ps : List Nat) (r : V) (obc : List Ob) : St :=
  ⟨setD d (nameV (wb st.ob ps (obc.map (mapO (gOut ps)))) (r.mapId (gOut ps))).1 st.tm, (nameV (wb st.ob ps (obc.map (mapO (gOut ps)))) (r.mapId (gOut ps))).2⟩

theorem Runs.call {fo : Operand} {as : Array Operand} {ts : Array TypeId} {f : FuncId} {first cap args' : List V} {obi : List Ob} (ps : List Nat) {r : V} {obc : List Ob}
    (ho : o.op = .call { callee := .value fo, args := as, argTypes := ts }) (hg : gd ops st o.guard = some true) (hf : val st fo = .clo (.func f) first cap)
    (ha : mapL (gIn ps) (first ++ as.toList.map (val st) ++ cap) = args') (hi : obIn st.ob ps = obi)
    (hct : Ct P f args' obi r obc) (hF : Callable P f)
    (hn : ps.Nodup) (hlt : ∀ id ∈ ps, id < st.ob.length) (he : callEnd st o.dst ps r obc = s1) (hk : Runs P X ops rest s1 s2) : Runs P X ops (o :: rest) st s2 := by
  subst ha; subst hi; subst he
  exact fun rest' Q hq => WL_call ps hct ho hg hf hF hn hlt (hk rest' Q hq)

/-- a call of a function that only reads what it is given -/
theorem Runs.callB {fo : Operand} {as : Array Operand} {ts : Array TypeId} {f : FuncId} {first cap args' : List V} {r : V}
    (ho : o.op = .call { callee := .value fo, args := as, argTypes := ts }) (hg : gd ops st o.guard = some true) (hf : val st fo = .clo (.func f) first cap)
    (ha : borL st.ob (first ++ as.toList.map (val st) ++ cap) = args')
    (hct : Ct P f args' [] r []) (hF : Callable P f) (hsol : r.solid = true) (he : (⟨setD o.dst (nameV st.ob r).1 st.tm, (nameV st.ob r).2⟩ : St) = s1) (hk : Runs P X ops rest s1 s2) : Runs P X ops (o :: rest) st s2 := by
  subst ha; subst he
  intro rest' Q hq
  have hk := hk rest' Q hq
  intro w m cn a hi hs hd
  refine wpList_step fun K hK => ?_
  rw [gd_ok hs hg, if_pos rfl]
  have hfv := val_ok hs fo
  rw [hf] at hfv
  obtain ⟨us1, vs1, he, hfirst, hcap⟩ : ∃ us1 vs1, a.eval fo = .func (.func f) (List.toArray us1) (List.toArray vs1) ∧ R w (frz X cn) m (.list first us1) z0 ∧ R w (frz X cn) m (.list cap vs1) z0 := by
    generalize a.eval fo = u at hfv
    generalize hz : z0 = c at hfv
    cases hfv with
    | clo h1 h2 he =>
      subst hz
      exact ⟨_, _, rfl, h1.zero fun z => by have := he z; simp [z0] at this; omega, h2.zero fun z => by have := he z; simp [z0] at this; omega⟩
  have hargs : ∀ l : List Operand, R w (frz X cn) m (.list (l.map (val st)) (l.map a.eval)) z0 := by
    intro l
    induction l with
    | nil => exact .lnil
    | cons x l ih => exact .lcons (val_ok hs x) ih (fun _ => rfl)
  have hall := ((hfirst.ljoin (hargs as.toList)).ljoin hcap).zero fun z => by simp [z0]
  let C : Ctx := ⟨w, fun b => b < w.heap.size, fun b => ∃ id, 0 < ((fun _ => z0) : Nat → Cnt) id b, noIds, ([] : List Ob).length⟩
  have hCinv : Inv C w [] noIds (fun _ => z0) := by
    refine ⟨Nat.le_refl _, fun _ _ _ => rfl, rfl, rfl, rfl, fun i o ho => by simp at ho, fun b i j h => absurd h (by simp [z0]), fun i b => by simp [z0], fun i b h => absurd h (by simp [z0]), fun i h => rfl, fun i h => rfl, fun i x h => by simp [noIds] at h, Nat.le_refl _, fun _ _ => rfl⟩
  have hCR : R w (frz C (fun _ => z0)) noIds (.list (borL st.ob (first ++ as.toList.map (val st) ++ cap)) (us1 ++ as.toList.map a.eval ++ vs1)) z0 :=
    borListR hi (fr' := frz C (fun _ => z0)) (fun b hb => ⟨.inl hb, fun _ => rfl⟩) hall (fun _ => rfl) (fun y _ u c h hc => borR hi (fun b hb => ⟨.inl hb, fun _ => rfl⟩) _ rfl h hc)
  have hcall := hct w (fun b => b < w.heap.size) noIds (fun _ => z0) (us1 ++ as.toList.map a.eval ++ vs1) (fun b hb => ⟨hb, fun _ => rfl⟩) hCinv hCR
  unfold Oper.wp
  have hrun : (execOp a.eval o).run P w = .ok (.enter f (us1 ++ as.toList.map a.eval ++ vs1).toArray) w := by
    simp only [execOp, ho, resolve, Deferred.ofValue, he, Sem.run_bind, Sem.run_pure, Result.andThen_ok, invoke]
    rw [run_callFunc hF]
    congr 2
    apply Array.ext'
    simp
  rw [hrun]
  refine Calls.mono hcall ?_
  rintro e w' ⟨u, mc, cnc, d, rfl, h1, h2, h3, n, h4, h5⟩
  have h1' : Inv (ctxC X w m cn []) w' [] mc cnc := by
    refine ⟨h1.le, fun b hb hn => h1.kept b hb (fun ⟨id, hid⟩ => absurd hid (by simp [z0])), h1.os, h1.tape, h1.output, fun i o ho => by simp at ho, h1.dis, h1.one, fun i b h => ?_, h1.fresh, fun i hi => by simp [ctxC] at hi, h1.mlt, Nat.le_refl _, h1.shp⟩
    obtain ⟨g1, g2⟩ := h1.new i b h
    refine ⟨g1, .inl ?_⟩
    rcases g2 with g2 | ⟨id, g2⟩
    · exact g2
    · exact absurd g2 (by simp [z0])
  have h2' : R w' (frz (ctxC X w m cn []) cnc) mc (.one r u) d := R.solid h2 hsol mc
  have hN : st.ob.length ≤ (nameV st.ob r).2.length := nameV_len st.ob r
  obtain ⟨a1, a2, a3, a4⟩ := after_call hi List.nodup_nil (fun id h => by simp at h) h1' h2' rfl (Nat.zero_le n) h5 hN
  rw [solid_mapId _ r hsol] at a3
  replace a1 : Inv X w' st.ob m _ := a1
  obtain ⟨m2, cn2, b1, b2, b3, _, _⟩ := nameV_ok r a1 (Nat.le_refl _) a3 a4
  have hs2 : Sl X w' m2 cn2 (setD o.dst (nameV st.ob r).1 st.tm) (a.put o.dst u) := by
    have := (b2.Sl (a2.Sl hs)).set o.dst b3
    cases hod : o.dst <;> simpa [setD, hod] using this
  have hd2 : (a.put o.dst u).defers = [] := by cases hod : o.dst <;> simpa [Act.put] using hd
  exact hK _ _ (hk w' m2 cn2 _ b1 hs2 hd2)

/-- some slots and objects anew -/
def updL (tm : List V) : List (Nat × V) → List V
  | [] => tm
  | (i, x) :: ps => updL (tm.set i x) ps
def updO (ob : List Ob) : List (Nat × Ob) → List Ob
  | [] => ob
  | (i, x) :: ps => updO (ob.set i x) ps
def St.upd (s : St) (us : List (Nat × V)) (os : List (Nat × Ob)) : St := ⟨updL s.tm us, updO s.ob os⟩

/-- a loop: ks are the slots that are kept, u and uo what changes -/
theorem W_loopU {α : Type} {c : Code} (ks : List Nat) (u : α → List (Nat × V)) (uo : α → List (Nat × Ob)) (I : α → Prop) (μ : α → Nat) (a0 : α) {f : α → St}
    (hf : ∀ a, (st.keep ks).upd (u a) (uo a) = f a) (h0 : st.keep ks = f a0) (hI : I a0)
    (round : ∀ a, I a → W P X c (f a) (thenQ (fun s' => ∃ a', Le X s' (f a') ∧ I a' ∧ μ a' < μ a) Q)) : W P X (.loop c) st Q :=
  W_loopF f I μ a0 (Le.trans (Le.keep ks st) (Le.of_eq h0)) hI round

/-- the objects from n on go -/
def St.trim (n : Nat) (s : St) : St := ⟨jkL (fun id => decide (n ≤ id)) s.tm, (s.ob.take n).map (jkO (fun id => decide (n ≤ id)))⟩

mutual
theorem jk_lim (n : Nat) : ∀ x : V, (x.jk (fun id => decide (n ≤ id))).lim n = true
  | .junk => rfl
  | .bool _ => rfl
  | .int _ _ => rfl
  | .str _ => rfl
  | .raw _ => rfl
  | .agg xs => by simp only [V.jk, V.lim]; exact jkL_lim n xs
  | .tup xs => by simp only [V.jk, V.lim]; exact jkL_lim n xs
  | .lst _ _ _ => rfl
  | .bx _ _ => rfl
  | .fp _ => rfl
  | .fmap _ => rfl
  | .ptr id i j => by
    simp only [V.jk]
    split
    · rfl
    · rename_i h; simp only [V.lim, decide_eq_true_eq] at h ⊢; omega
  | .arr id i j => by
    simp only [V.jk]
    split
    · rfl
    · rename_i h; simp only [V.lim, decide_eq_true_eq] at h ⊢; omega
  | .clo f xs ys => by simp only [V.jk, V.lim, jkL_lim n xs, jkL_lim n ys]; rfl
  | .ifc t x => by simp only [V.jk, V.lim]; exact jk_lim n x
theorem jkL_lim (n : Nat) : ∀ xs : List V, limL n (jkL (fun id => decide (n ≤ id)) xs) = true
  | [] => rfl
  | x :: xs => by simp only [jkL, limL, jk_lim n x, jkL_lim n xs]; rfl
end

theorem Le.trim (n : Nat) (hn0 : X.n0 ≤ n) (s : St) (hn : n ≤ s.ob.length) : Le X s (s.trim n) := by
  intro w m cn a hi hs
  have h1 := hi.jk (fun id => decide (n ≤ id))
  have h2 := h1.trim (n := n) hn0 (by simpa using hn) (fun o ho => by
    rw [← List.map_take] at ho
    obtain ⟨o', _, rfl⟩ := List.mem_map.1 ho
    cases o' with
    | none => rfl
    | some p => exact jkL_lim n p.2)
  rw [← List.map_take] at h2
  refine ⟨_, cn, h2, ?_⟩
  exact R.jk (p := fun id => decide (n ≤ id)) (fun id h => if_pos (by simpa using h)) hs

/-- where a round ends -/
theorem round_end {α : Type} {f : α → St} {I : α → Prop} {μ : α → Nat} {a : α} {s' : St} (a' : α) (ks : List Nat) (h : s'.keep ks = f a') (hI : I a') (hμ : μ a' < μ a) :
    ∃ a', Le X s' (f a') ∧ I a' ∧ μ a' < μ a := ⟨a', Le.trans (Le.keep ks s') (Le.of_eq h), hI, hμ⟩

/-- where a round ends, and its own objects go -/
theorem round_endT {α : Type} {f : α → St} {I : α → Prop} {μ : α → Nat} {a : α} {s' : St} (a' : α) (ks : List Nat) (n : Nat) (hn0 : X.n0 ≤ n) (hn : n ≤ s'.ob.length) (h : (s'.keep ks).trim n = f a') (hI : I a') (hμ : μ a' < μ a) :
    ∃ a', Le X s' (f a') ∧ I a' ∧ μ a' < μ a := ⟨a', Le.trans (Le.keep ks s') (Le.trans (Le.trim n hn0 _ hn) (Le.of_eq h)), hI, hμ⟩

theorem W_endR {fn : Func} {n0 : Nat} {r r' : V} {ob' ob'' : List Ob} (h : doneR T fn n0 st = some (r', ob'')) (hr : Wk r' r) (ho : ob'' = ob') : Done T fn n0 r ob' .normal st :=
  let ⟨_, hx⟩ := W_retR h hr ho
  ⟨.inr rfl, hx⟩

theorem wrap_i64 {z : Int} (h1 : -9223372036854775808 ≤ z) (h2 : z < 9223372036854775808) : IntKind.i64.wrap z = z := by
  unfold IntKind.wrap
  simp [IntKind.signed, IntKind.bits]
  omega

end
end Go.Ev
namespace Go.Ev
open Go

/-- an operation that only computes -/
def pureOp : Op → Bool
  | .alloc _ => false
  | .box _ _ => false
  | .store _ _ _ => false
  | .makeSlice _ _ _ => false
  | .buildSlice _ _ _ => false
  | .call c => match c.callee with
    | .builtin .len => true
    | _ => false
  | _ => true

section
variable {P : Program} {X : Ctx} {st : St} {o : Oper} {T : Nat → Option TI}

theorem opA_okp {L : List Nat} (hT : TOK P T) {x : V} {st' : St} (h : opA T st o.op = some (x, st')) (hp : pureOp o.op = true) (hL : rdB st L o.op = true) : OKp P X L st o x ∧ st' = st := by
  cases ho : o.op <;> rw [ho] at h hp <;> simp only [opA] at h <;> try (cases h; done)
  case move => cases h; exact ⟨(ok_move (.inl ho)), rfl⟩
  case assign => cases h; exact ⟨(ok_move (.inr ho)), rfl⟩
  case pick =>
    split at h
    · rename_i hv; cases h; exact ⟨(ok_pick ho hv), rfl⟩
    · cases h
  case nilCheck =>
    split at h
    · rename_i hv; cases h; rw [← hv]; exact ⟨(ok_nilCheck ho (.inl ⟨_, _, _, hv⟩)), rfl⟩
    · rename_i hv; cases h; rw [← hv]; exact ⟨(ok_nilCheck ho (.inr (.inl ⟨_, hv⟩))), rfl⟩
    · rename_i hv; cases h; rw [← hv]; exact ⟨(ok_nilCheck ho (.inr (.inr ⟨_, _, _, hv⟩))), rfl⟩
    · cases h
  case binOp op t p q t' =>
    split at h
    · rename_i r hr
      cases h
      unfold opBin at hr
      split at hr
      · rename_i k p k' q hx hy
        split at hr
        · exact ⟨(ok_shft ho hx hy hr), rfl⟩
        · exact ⟨(ok_shft ho hx hy hr), rfl⟩
        · split at hr
          · rename_i hk; subst hk; exact ⟨(ok_arith ho hx hy hr), rfl⟩
          · cases hr
      · rename_i hx hy; exact ⟨(ok_str ho hx hy hr), rfl⟩
      · rename_i hx hy
        split at hr
        · rename_i ti ht
          split at hr
          · rename_i hk; cases hr; exact ⟨(ok_boolEq hT ht hk ho (.inl rfl) hx hy), rfl⟩
          · rename_i hk; cases hr; exact ⟨(ok_boolEq hT ht hk ho (.inr rfl) hx hy), rfl⟩
          · cases hr
        · cases hr
      · cases hr
    · cases h
  case unOp op t p =>
    cases op <;> simp only at h <;> try (cases h; done)
    · split at h
      · rename_i hv; cases h; exact ⟨(ok_neg ho hv), rfl⟩
      · cases h
    · split at h
      · rename_i hv; cases h; exact ⟨(ok_not ho hv), rfl⟩
      · cases h
  case convert s t p =>
    split at h
    · rename_i r hr
      cases h
      unfold opConv at hr
      split at hr
      · rename_i si ti hs ht
        split at hr
        · rename_i hk hx; cases hr; exact ⟨(ok_conv hT ht hk hs ho hx), rfl⟩
        · rename_i hk1 hk2 hx; cases hr; exact ⟨(ok_convS hT ht hk2 hs hk1 ho hx), rfl⟩
        · cases hr
      · cases hr
    · cases h
  case extract =>
    split at h
    · rename_i hv
      split at h
      · rename_i hj; cases h; exact ⟨(ok_extract ho hv hj), rfl⟩
      · cases h
    · cases h
  case index =>
    split at h
    · rename_i r hr
      cases h
      unfold opIndex at hr
      split at hr
      · rename_i ti ht
        split at hr
        · rename_i hk
          split at hr
          · rename_i hx hy
            split at hr
            · rename_i hc; cases hr; exact ⟨(ok_indexS hT ht hk ho hx hy hc.1 hc.2), rfl⟩
            · cases hr
          · cases hr
        · cases hr
      · cases hr
    · cases h
  case fieldAddr =>
    split at h
    · rename_i r hr
      cases h
      unfold opFieldAddr at hr
      split at hr
      · rename_i ti ht
        split at hr
        · rename_i fs hk
          split at hr
          · rename_i off ft hf
            split at hr
            · rename_i fi hft
              split at hr
              · cases hr
              · rename_i hs
                split at hr
                · rename_i hx; cases hr; exact ⟨(ok_fieldAddr hT ho ht hk hf hft hs hx), rfl⟩
                · rename_i hx
                  split at hr
                  · rename_i hl; cases hr; exact ⟨(ok_fieldAddrF hT ho ht hk hf hft hs hx hl), rfl⟩
                  · cases hr
                · cases hr
            · cases hr
          · cases hr
        · cases hr
      · cases hr
    · cases h
  case indexAddr =>
    split at h
    · rename_i r hr
      cases h
      unfold opIndexAddr at hr
      split at hr
      · rename_i ti ht
        split at hr
        · rename_i e hk
          split at hr
          · rename_i ei he
            split at hr
            · rename_i hx hy
              split at hr
              · rename_i hsz
                split at hr
                · rename_i hc; cases hr; subst hsz; exact ⟨(ok_indexAddr hT ho ht hk he hx hy hc.1 hc.2), rfl⟩
                · cases hr
              · cases hr
            · rename_i hx hy
              split at hr
              · rename_i k xs hid
                split at hr
                · rename_i hsz
                  split at hr
                  · rename_i hc; cases hr; subst hsz; exact ⟨(ok_indexAddrA hT ho ht hk he hx hid hy hc.1 hc.2), rfl⟩
                  · cases hr
                · cases hr
              · cases hr
            · cases hr
          · cases hr
        · cases hr
      · cases hr
    · cases h
  case load =>
    split at h
    · rename_i r hr
      cases h
      unfold opLoad at hr
      split at hr
      · rename_i ti ht
        split at hr
        · rename_i hp; exact ⟨(ok_loadF hT ho ht hp hr), rfl⟩
        · rename_i id i j hp
          split at hr
          · rename_i k xs hid
            split at hr
            · rename_i hc
              split at hr
              · rename_i y hy
                split at hr
                · rename_i hf; cases hr; exact ⟨(ok_load hT ho ht hp hid hc.1 hc.2 hy hf (by rw [ho] at hL; simp only [rdB, hp] at hL; simpa using hL)), rfl⟩
                · cases hr
              · cases hr
            · cases hr
          · cases hr
        · cases hr
      · cases hr
    · cases h
  case alloc => simp [pureOp] at hp
  case box => simp [pureOp] at hp
  case store => simp [pureOp] at hp

theorem opX_okp {L : List Nat} (hT : TOK P T) {n0 : Nat} {x : V} {st' : St} (h : opX T n0 st o.op = some (x, st')) (hp : pureOp o.op = true) (hL : rdB st L o.op = true) : OKp P X L st o x ∧ st' = st := by
  cases ho : o.op <;> rw [ho] at h hp <;> simp only [opX] at h <;> try (cases h; done)
  case binOp op t p q t' =>
    split at h
    · rename_i r hr
      cases h
      unfold opEq at hr
      split at hr
      · rename_i hx hy
        split at hr
        · rename_i fs hfs
          split at hr
          · rename_i b hb; cases hr; exact ⟨(ok_structEq hT ho (.inl rfl) hfs hx hy hb), rfl⟩
          · cases hr
        · cases hr
      · rename_i hx hy
        split at hr
        · rename_i fs hfs
          split at hr
          · rename_i b hb; cases hr; exact ⟨(ok_structEq hT ho (.inr rfl) hfs hx hy hb), rfl⟩
          · cases hr
        · cases hr
      · cases hr
    · cases h
  case field =>
    split at h
    · rename_i r hr; cases h; exact ⟨(ok_field hT ho hr), rfl⟩
    · cases h
  case makeFunc => cases h; exact ⟨(ok_makeFunc ho), rfl⟩
  case slice t p lo hi mx =>
    split at h
    · rename_i r hr
      cases h
      unfold opSlice at hr
      split at hr
      · rename_i ti ht
        split at hr
        · rename_i hk
          split at hr
          · rename_i hx
            split at hr
            · rename_i l hh hs
              cases hr
              obtain ⟨l', h', q', h1, h2, h3, h4, h5, h6, h7, rfl, rfl⟩ := sl3_ok hs
              have : q' = none := by simp [bnd] at h3; exact h3.symm
              subst this
              exact ⟨(ok_sliceS hT ho ht hk hx h1 h2 (by simpa using h5) h6), rfl⟩
            · cases hr
          · cases hr
        · rename_i e hk
          split at hr
          · rename_i ei he
            split at hr
            · rename_i ow k xs hx
              split at hr
              · rename_i hsz
                subst hsz
                split at hr
                · rename_i l hh hs
                  cases hr
                  obtain ⟨l', h', q', h1, h2, h3, h4, h5, h6, h7, rfl, rfl⟩ := sl3_ok hs
                  exact ⟨(ok_sliceL hT ho ht hk he hx h1 h2 h3 h4 h5 h6 h7), rfl⟩
                · cases hr
              · cases hr
            · rename_i id off n hx
              split at hr
              · rename_i k xs hid
                split at hr
                · rename_i hsz
                  subst hsz
                  split at hr
                  · rename_i l hh hs
                    cases hr
                    obtain ⟨l', h', q', h1, h2, h3, h4, h5, h6, h7, rfl, rfl⟩ := sl3_ok hs
                    exact ⟨(ok_sliceA hT ho ht hk he hx hid h1 h2 h3 h4 h5 h6 h7), rfl⟩
                  · cases hr
                · cases hr
              · cases hr
            · cases hr
          · cases hr
        · cases hr
      · cases hr
    · cases h
  case build =>
    split at h
    · rename_i ti ht
      split at h
      · rename_i fs hk
        split at h
        · rename_i hc
          split at h
          · rename_i rs hb; cases h; exact ⟨(ok_build hT ho ht hk hc.1 hb hc.2), rfl⟩
          · cases h
        · cases h
      · cases h
    · cases h
  case buildSlice => simp [pureOp] at hp
  case makeSlice => simp [pureOp] at hp
  case call c =>
    unfold opCall at h
    split at h
    · rename_i p t hcal hargs htys
      have hc : c = { callee := .builtin .len, args := #[p], argTypes := #[t] } := by
        obtain ⟨a, b, d⟩ := c
        simp only at hcal hargs htys
        subst hcal
        rw [show b = #[p] from Array.ext' hargs, show d = #[t] from Array.ext' htys]
      rw [hc] at ho
      split at h
      · rename_i ti ht
        split at h
        · rename_i hk hx; cases h; exact ⟨(ok_len hT ho ht (by rw [hk, hx]) (by rw [hx]; rfl)), rfl⟩
        · rename_i hk hx; cases h; exact ⟨(ok_len hT ho ht (by rw [hk, hx]) (by rw [hx]; rfl)), rfl⟩
        · rename_i hk hx; cases h; exact ⟨(ok_len hT ho ht (by rw [hk, hx]) (by rw [hx]; rfl)), rfl⟩
        · rename_i hk hx; cases h; exact ⟨(ok_len (n := 0) hT ho ht (by rw [hk, hx]) (by rw [hx]; rfl)), rfl⟩
        · cases h
      · cases h
    · rename_i s p t t' hcal hargs htys
      rw [show (Op.call c) = Op.call c from rfl] at hp
      simp [pureOp, hcal] at hp
    · cases h

theorem opB_okp {L : List Nat} (hT : TOK P T) {n0 : Nat} {x : V} {st' : St} (h : opB T n0 st o.op = some (x, st')) (hp : pureOp o.op = true) (hL : rdB st L o.op = true) : OKp P X L st o x ∧ st' = st := by
  unfold opB at h
  split at h
  · rename_i r hr; cases h; exact opX_okp hT hr hp hL
  · split at h
    · rename_i hr; cases h; exact ⟨opY_ok hT hr hL, rfl⟩
    · exact opA_okp hT h hp hL

end

section
variable {X : Ctx} {w w' : World} {ob : List Ob} {m : Mp} {cn : Nat → Cnt}

theorem Ext.kp (hi : Inv X w ob m cn) (hk : Kp w w') : Ext X w m cn w' m cn :=
  ⟨hk.1, fun b hb hf => ⟨hf, hk.2 b hb⟩, fun id x hx => ⟨hx, shape_of_heap (hk.2 _ (hi.mlt id x hx))⟩⟩

theorem Inv.kp (hi : Inv X w ob m cn) (hk : Kp w w') (h1 : w'.os = w.os) (h2 : w'.tape = w.tape) (h3 : w'.output = w.output) : Inv X w' ob m cn := by
  have he := Ext.kp hi hk
  refine ⟨Nat.le_trans hi.le hk.1, fun b hb ho => by rw [hk.2 b (Nat.lt_of_lt_of_le hb hi.le)]; exact hi.kept b hb ho, h1.trans hi.os, h2.trans hi.tape, h3.trans hi.output,
    fun i o ho => (hi.obj i o ho).ext he rfl rfl (fun b hb => hk.2 b (hi.new i b hb).1), hi.dis, hi.one, fun i b h => ⟨Nat.lt_of_lt_of_le (hi.new i b h).1 hk.1, (hi.new i b h).2⟩, hi.fresh, hi.pas,
    fun i x h => Nat.lt_of_lt_of_le (hi.mlt i x h) hk.1, hi.n0, fun b hb => by rw [shape_of_heap (hk.2 b (Nat.lt_of_lt_of_le hb hi.le))]; exact hi.shp b hb⟩

/-- the worlds that a drawn region may go through -/
def cls (X : Ctx) (ob : List Ob) (m : Mp) (cn : Nat → Cnt) (w w' : World) : Prop := Kp w w' ∧ Inv X w' ob m cn

end

mutual
/-- the value of a tree without addresses -/
def V.toV : V → Value
  | .bool b => .bool b
  | .int k n => .int k n
  | .str l => .string ⟨l.toArray⟩
  | .raw v => v
  | .agg xs => .agg (toVL xs).toArray
  | .tup xs => .tuple (toVL xs).toArray
  | _ => undef
def toVL : List V → List Value
  | [] => []
  | x :: xs => x.toV :: toVL xs
end

mutual
def V.det : V → Bool
  | .bool _ => true
  | .int _ _ => true
  | .str _ => true
  | .raw v => v.oneCell'
  | .agg xs => detL xs
  | .tup xs => detL xs
  | _ => false
def detL : List V → Bool
  | [] => true
  | x :: xs => x.det && detL xs
end

theorem R.det {w : World} {fr : Nat → Prop} {m : Mp} {j : J} {c : Cnt} (h : R w fr m j c) : match j with | .one x u => x.det = true → u = x.toV | .cells _ _ _ => True | .list xs us => detL xs = true → us = toVL xs := by
  induction h with
  | agg _ ih => intro hp; rw [ih (by simpa [V.det] using hp)]; rfl
  | tup _ ih => intro hp; rw [ih (by simpa [V.det] using hp)]; rfl
  | lnil => intro _; rfl
  | lcons _ _ _ ih1 ih2 =>
    intro hp
    simp only [detL, Bool.and_eq_true] at hp
    rw [ih1 hp.1, ih2 hp.2]; rfl
  | cnil => trivial
  | ccons => trivial
  | bool => intro _; rfl
  | int => intro _; rfl
  | str => intro _; rfl
  | raw => intro _; rfl
  | _ => intro hp; simp [V.det] at hp

mutual
theorem det_R {w : World} {fr : Nat → Prop} {m : Mp} : ∀ {x : V}, x.det = true → R w fr m (.one x x.toV) z0
  | .bool _, _ => .bool _
  | .int _ _, _ => .int _ _
  | .str _, _ => .str _
  | .raw v, h => .raw v (by simpa [V.det] using h)
  | .agg xs, h => .agg (det_RL (by simpa [V.det] using h))
  | .tup xs, h => .tup (det_RL (by simpa [V.det] using h))
theorem det_RL {w : World} {fr : Nat → Prop} {m : Mp} : ∀ {xs : List V}, detL xs = true → R w fr m (.list xs (toVL xs)) z0
  | [], _ => .lnil
  | x :: xs, h => by
    simp only [detL, Bool.and_eq_true] at h
    exact .lcons (det_R h.1) (det_RL h.2) (fun _ => rfl)
end

section
variable {P : Program} {X : Ctx} {T : Nat → Option TI} {ops : Array Oper} {rest l l' : List Oper} {st s1 s2 : St} {Q : Exit → St → Prop} {o : Oper}

/-- operations of a region that draws its order: each has one value in every world of the class -/
def RunsQ (P : Program) (X : Ctx) (ops : Array Oper) (l : List Oper) (st s1 : St) : Prop :=
  s1.ob = st.ob ∧ ∀ (w : World) (m : Mp) (cn : Nat → Cnt) (a : Act) (rest : List Oper) (Qf : Act → Prop), Inv X w st.ob m cn → Sl X w m cn st.tm a → a.defers = [] →
    (∀ a', Sl X w m cn s1.tm a' → a'.defers = [] → wpQuiet P ops (cls X st.ob m cn w) Qf rest a') → wpQuiet P ops (cls X st.ob m cn w) Qf (l ++ rest) a

theorem RunsQ.nil : RunsQ P X ops [] st st := ⟨rfl, fun _ _ _ a _ _ _ hs hd h => h a hs hd⟩

theorem put_defers {a : Act} (d : Option Tmp) (u : Value) (hd : a.defers = []) : (a.put d u).defers = [] := by cases d <;> simpa [Act.put] using hd

theorem RunsQ.value {x : V} {l : List Oper} (hg : gd ops st o.guard = some true) (hv : ∀ w m cn a, Inv X w st.ob m cn → Sl X w m cn st.tm a → ∃ u, (∀ w', cls X st.ob m cn w w' → o.quietAt P a (cls X st.ob m cn w) w' u) ∧ R w (frz X cn) m (.one x u) z0)
    (hk : RunsQ P X ops l ⟨setD o.dst x st.tm, st.ob⟩ s1) : RunsQ P X ops (o :: l) st s1 := by
  refine ⟨hk.1, fun w m cn a rest Qf hi hs hd h => ?_⟩
  obtain ⟨u, h1, h2⟩ := hv w m cn a hi hs
  show if Region.wanted o (yielded ops a.tmps) then o.quiet P a _ _ else _
  rw [gd_ok hs hg, if_pos rfl]
  have hs2 : Sl X w m cn (setD o.dst x st.tm) (a.put o.dst u) := by
    have := hs.set o.dst h2
    cases ho : o.dst <;> simpa [setD, ho] using this
  exact ⟨u, h1, hk.2 w m cn _ rest Qf hi hs2 (put_defers _ _ hd) h⟩

theorem RunsQ.op {x : V} {l : List Oper} {L : List Nat} (h : OKp P X L st o x) (hg : gd ops st o.guard = some true) (hk : RunsQ P X ops l ⟨setD o.dst x st.tm, st.ob⟩ s1) : RunsQ P X ops (o :: l) st s1 :=
  RunsQ.value hg (fun w m cn a hi hs => by
    obtain ⟨u, hu, hR⟩ := h w m cn a hi hs
    exact ⟨u, fun w' hw' => by unfold Oper.quietAt; rw [hu w' (.of_kp hw'.1)]; exact ⟨rfl, rfl⟩, hR⟩) hk

theorem RunsQ.skip {l : List Oper} (hg : gd ops st o.guard = some false) (hk : RunsQ P X ops l ⟨setD o.dst (.tup []) st.tm, st.ob⟩ s1) : RunsQ P X ops (o :: l) st s1 := by
  refine ⟨hk.1, fun w m cn a rest Qf hi hs hd h => ?_⟩
  show if Region.wanted o (yielded ops a.tmps) then o.quiet P a _ _ else _
  rw [gd_ok hs hg, if_neg (by simp)]
  have hs2 : Sl X w m cn (setD o.dst (.tup []) st.tm) (a.put o.dst undef) := by
    have := hs.set o.dst (x := .tup []) (u := undef) (.tup .lnil)
    cases ho : o.dst <;> simpa [setD, ho] using this
  exact hk.2 w m cn _ rest Qf hi hs2 (put_defers _ _ hd) h

/-- operations that only compute -/
def runQ (T : Nat → Option TI) (n0 : Nat) (ops : Array Oper) : List Oper → St → Option St
  | [], st => some st
  | o :: rest, st => match gd ops st o.guard with
    | some true => if pureOp o.op = true then (match opB T n0 st o.op with
      | some (x, _) => runQ T n0 ops rest ⟨setD o.dst x st.tm, st.ob⟩
      | none => none) else none
    | some false => runQ T n0 ops rest ⟨setD o.dst (.tup []) st.tm, st.ob⟩
    | none => none

theorem RunsQ.run (hT : TOK P T) {n0 : Nat} : ∀ {l : List Oper} {st st' : St}, runQ T n0 ops l st = some st' → RunsQ P X ops l st st'
  | [], st, st', h => by simp only [runQ] at h; cases h; exact RunsQ.nil
  | o :: l, st, st', h => by
    simp only [runQ] at h
    split at h
    · rename_i hg
      split at h
      · rename_i hp
        split at h
        · rename_i x st2 hx
          exact RunsQ.op (opB_okp (L := allL o.op st) hT hx hp (rdB_all o.op st)).1 hg (RunsQ.run hT h)
        · cases h
      · cases h
    · rename_i hg
      exact RunsQ.skip hg (RunsQ.run hT h)
    · cases h

theorem RunsQ.trans (k : Nat) (h1 : RunsQ P X ops (l.take k) st s1) (h2 : RunsQ P X ops (l.drop k) s1 s2) : RunsQ P X ops l st s2 := by
  obtain ⟨e1, h1⟩ := h1
  obtain ⟨e2, h2⟩ := h2
  refine ⟨e2.trans e1, fun w m cn a rest Qf hi hs hd h => ?_⟩
  have := h1 w m cn a (l.drop k ++ rest) Qf hi hs hd (fun a' hs' hd' => by
    have := h2 w m cn a' rest Qf (by rw [e1]; exact hi) hs' hd'
    rw [e1] at this
    exact this h)
  rwa [← List.append_assoc, List.take_append_drop] at this

theorem RunsQ.step (k : Nat) (hT : TOK P T) {n0 : Nat} (h1 : runQ T n0 ops (l.take k) st = some s1) (h2 : RunsQ P X ops (l.drop k) s1 s2) : RunsQ P X ops l st s2 :=
  RunsQ.trans k (RunsQ.run hT h1) h2

/-- a call of a function that only reads, and gives back atoms -/
theorem RunsQ.call {fo : Operand} {as : Array Operand} {ts : Array TypeId} {f : FuncId} {first cap args' : List V} {r : V}
    (ho : o.op = .call { callee := .value fo, args := as, argTypes := ts }) (hg : gd ops st o.guard = some true) (hf : val st fo = .clo (.func f) first cap)
    (ha : borL st.ob (first ++ as.toList.map (val st) ++ cap) = args')
    (hct : Ct P f args' [] r []) (hF : Callable P f) (hdet : r.det = true) (hk : RunsQ P X ops rest ⟨setD o.dst r st.tm, st.ob⟩ s1) : RunsQ P X ops (o :: rest) st s1 := by
  subst ha
  refine RunsQ.value hg (fun w0 m cn a hi0 hs0 => ⟨r.toV, fun w hw => ?_, ?_⟩) hk
  · obtain ⟨hkp, hi⟩ := hw
    have hs : Sl X w m cn st.tm a := (Ext.kp hi0 hkp).Sl hs0
    have hfv := val_ok hs fo
    rw [hf] at hfv
    obtain ⟨us1, vs1, he, hfirst, hcap⟩ : ∃ us1 vs1, a.eval fo = .func (.func f) (List.toArray us1) (List.toArray vs1) ∧ R w (frz X cn) m (.list first us1) z0 ∧ R w (frz X cn) m (.list cap vs1) z0 := by
      generalize a.eval fo = u at hfv
      generalize hz : z0 = c at hfv
      cases hfv with
      | clo h1 h2 he =>
        subst hz
        exact ⟨_, _, rfl, h1.zero fun z => by have := he z; simp [z0] at this; omega, h2.zero fun z => by have := he z; simp [z0] at this; omega⟩
    have hargs : ∀ l : List Operand, R w (frz X cn) m (.list (l.map (val st)) (l.map a.eval)) z0 := by
      intro l
      induction l with
      | nil => exact .lnil
      | cons x l ih => exact .lcons (val_ok hs x) ih (fun _ => rfl)
    have hall := ((hfirst.ljoin (hargs as.toList)).ljoin hcap).zero fun z => by simp [z0]
    let C : Ctx := ⟨w, fun b => b < w.heap.size, fun b => ∃ id, 0 < ((fun _ => z0) : Nat → Cnt) id b, noIds, ([] : List Ob).length⟩
    have hCinv : Inv C w [] noIds (fun _ => z0) := by
      refine ⟨Nat.le_refl _, fun _ _ _ => rfl, rfl, rfl, rfl, fun i o ho => by simp at ho, fun b i j h => absurd h (by simp [z0]), fun i b => by simp [z0], fun i b h => absurd h (by simp [z0]), fun i h => rfl, fun i h => rfl, fun i x h => by simp [noIds] at h, Nat.le_refl _, fun _ _ => rfl⟩
    have hCR : R w (frz C (fun _ => z0)) noIds (.list (borL st.ob (first ++ as.toList.map (val st) ++ cap)) (us1 ++ as.toList.map a.eval ++ vs1)) z0 :=
      borListR hi (fr' := frz C (fun _ => z0)) (fun b hb => ⟨.inl hb, fun _ => rfl⟩) hall (fun _ => rfl) (fun y _ u c h hc => borR hi (fun b hb => ⟨.inl hb, fun _ => rfl⟩) _ rfl h hc)
    have hcall := hct w (fun b => b < w.heap.size) noIds (fun _ => z0) (us1 ++ as.toList.map a.eval ++ vs1) (fun b hb => ⟨hb, fun _ => rfl⟩) hCinv hCR
    have hrun : (execOp a.eval o).run P w = .ok (.enter f (us1 ++ as.toList.map a.eval ++ vs1).toArray) w := by
      simp only [execOp, ho, resolve, Deferred.ofValue, he, Sem.run_bind, Sem.run_pure, Result.andThen_ok, invoke]
      rw [run_callFunc hF]
      congr 2
      apply Array.ext'
      simp
    unfold Oper.quietAt
    rw [hrun]
    refine ⟨rfl, Calls.mono hcall ?_⟩
    rintro e w' ⟨u, mc, cnc, d, rfl, h1, h2, h3, n, h4, h5⟩
    have hu : u = r.toV := R.det h2 hdet
    subst hu
    have hkp2 : Kp w w' := ⟨h1.le, fun b hb => h1.kept b hb (fun ⟨id, hid⟩ => absurd hid (by simp [z0]))⟩
    exact ⟨rfl, hkp.trans hkp2, hi.kp hkp2 h1.os h1.tape h1.output⟩
  · exact det_R hdet

/-- a region that draws its order, all of whose operations have one value whatever the order -/
theorem W_drawn {id : Nat} (hm : P.follows .mixedOrders = true) (hB : Region.lexB .any ops = true) (h : RunsQ P X ops ops.toList st s1) (hq : Q .normal s1) : W P X (.region id ops true) st Q := by
  intro w m cn a hi hs hd
  obtain ⟨e, h⟩ := h
  refine wp_region_quiet (C := cls X st.ob m cn { w with drawn := w.drawn + 1 }) hm hB ⟨Kp.refl _, hi.drew⟩ ?_
  have := h { w with drawn := w.drawn + 1 } m cn a [] (fun a' => ∀ w', cls X st.ob m cn { w with drawn := w.drawn + 1 } w' → post X Q .normal a' w') hi.drew (Ext.drew.Sl hs) hd
    (fun a' hs' hd' w' hw' => ⟨s1, m, cn, hq, by rw [e]; exact hw'.2, (Ext.kp hi.drew hw'.1).Sl hs', hd'⟩)
  simpa using this

theorem W_dseq {id : Nat} {y : Code} (hm : P.follows .mixedOrders = true) (hB : Region.lexB .any ops = true) (h : RunsQ P X ops ops.toList st s1) (hk : W P X y s1 Q) : W P X (.seq (.region id ops true) y) st Q :=
  W_seq (W_drawn hm hB h hk)

/-- a part that hangs on a symbolic bool, in both ways, and the two ends in one -/
theorem RunsQ.mrg (k d : Nat) {b : Bool} {s0 : St} (hd : st.tm[d]? = some (.bool b))
    (h1 : b = true → RunsQ P X ops (l.take k) ⟨st.tm.set d (.bool true), st.ob⟩ s1) (h0 : b = false → RunsQ P X ops (l.take k) ⟨st.tm.set d (.bool false), st.ob⟩ s0)
    (hl : s1.tm.length = s0.tm.length) (hk : RunsQ P X ops (l.drop k) ⟨(St.mrg b s1 s0).tm, st.ob⟩ s2) : RunsQ P X ops l st s2 := by
  refine RunsQ.trans k ?_ hk
  have hset : ∀ c : Bool, b = c → (⟨st.tm.set d (.bool c), st.ob⟩ : St) = st := fun c hc => by
    subst hc
    rw [set_same hd]
  cases b with
  | true =>
    have := h1 rfl
    rw [hset true rfl] at this
    have e : (⟨(St.mrg true s1 s0).tm, st.ob⟩ : St) = s1 := by
      rw [mrg_true hl, ← this.1]
    rw [e]; exact this
  | false =>
    have := h0 rfl
    rw [hset false rfl] at this
    have e : (⟨(St.mrg false s1 s0).tm, st.ob⟩ : St) = s0 := by
      have e2 : (St.mrg false s1 s0).tm = s0.tm := by
        have := congrArg St.tm (mrg_false (s1 := ⟨s1.tm, s0.ob⟩) (s0 := s0) hl rfl)
        exact this
      rw [e2, ← this.1]
    rw [e]; exact this

/-- operations ahead of a drawn region's last ones, in one world -/
def RunsS (P : Program) (X : Ctx) (ops : Array Oper) (l : List Oper) (st s1 : St) : Prop :=
  s1.ob = st.ob ∧ ∀ (w : World) (m : Mp) (cn : Nat → Cnt) (a : Act) (Qf : Act → Prop), Inv X w st.ob m cn → Sl X w m cn st.tm a → a.defers = [] →
    (∀ a', Sl X w m cn s1.tm a' → a'.defers = [] → Qf a') → wpStill P ops w Qf l a

theorem RunsS.run (hT : TOK P T) {n0 : Nat} : ∀ {l : List Oper} {st st' : St}, runQ T n0 ops l st = some st' → RunsS P X ops l st st'
  | [], st, st', h => by simp only [runQ] at h; cases h; exact ⟨rfl, fun _ _ _ a _ _ hs hd h => h a hs hd⟩
  | o :: l, st, st', h => by
    simp only [runQ] at h
    split at h
    · rename_i hg
      split at h
      · rename_i hp
        split at h
        · rename_i x st2 hx
          obtain ⟨e, hk⟩ := RunsS.run hT h
          refine ⟨e, fun w m cn a Qf hi hs hd h => ?_⟩
          obtain ⟨u, hu, hR⟩ := (opB_okp (L := allL o.op st) hT hx hp (rdB_all o.op st)).1 w m cn a hi hs
          show if Region.wanted o (yielded ops a.tmps) then o.still P a w _ else _
          rw [gd_ok hs hg, if_pos rfl]
          have hs2 : Sl X w m cn (setD o.dst x st.tm) (a.put o.dst u) := by
            have := hs.set o.dst hR
            cases ho : o.dst <;> simpa [setD, ho] using this
          unfold Oper.still
          rw [hu w (Kr.refl w)]
          exact ⟨rfl, hk w m cn _ Qf hi hs2 (put_defers _ _ hd) h⟩
        · cases h
      · cases h
    · rename_i hg
      obtain ⟨e, hk⟩ := RunsS.run hT h
      refine ⟨e, fun w m cn a Qf hi hs hd h => ?_⟩
      show if Region.wanted o (yielded ops a.tmps) then o.still P a w _ else _
      rw [gd_ok hs hg, if_neg (by simp)]
      have hs2 : Sl X w m cn (setD o.dst (.tup []) st.tm) (a.put o.dst undef) := by
        have := hs.set o.dst (x := .tup []) (u := undef) (.tup .lnil)
        cases ho : o.dst <;> simpa [setD, ho] using this
      exact hk w m cn _ Qf hi hs2 (put_defers _ _ hd) h
    · cases h

/-- a drawn region whose first n operations only compute, and whose others follow one another -/
theorem W_drawnT {id : Nat} {ls : List Oper} (n : Nat) (hm : P.follows .mixedOrders = true) (hB : Region.lexTailB .any ls.toArray n = true) (h : RunsS P X ls.toArray (ls.take n) st s1) (h2 : Runs P X ls.toArray (ls.drop n) s1 s2) (hq : Q .normal s2) :
    W P X (.region id ls.toArray true) st Q := by
  intro w m cn a hi hs hd
  obtain ⟨e, h⟩ := h
  refine wp_region_still_tail n hm hB ?_
  refine h { w with drawn := w.drawn + 1 } m cn a _ hi.drew (Ext.drew.Sl hs) hd (fun a' hs' hd' => ?_)
  have := h2 [] Q (WL_nil hq)
  rw [List.append_nil] at this
  exact this { w with drawn := w.drawn + 1 } m cn a' (by rw [e]; exact hi.drew) hs' hd'

theorem W_tseq {id : Nat} {ls : List Oper} {y : Code} (n : Nat) (hm : P.follows .mixedOrders = true) (hB : Region.lexTailB .any ls.toArray n = true) (h : RunsS P X ls.toArray (ls.take n) st s1) (h2 : Runs P X ls.toArray (ls.drop n) s1 s2)
    (hk : W P X y s2 Q) : W P X (.seq (.region id ls.toArray true) y) st Q := W_seq (W_drawnT n hm hB h h2 hk)

end
end Go.Ev
namespace Go.Ev
open Go

section
variable {X : Ctx} {w : World} {ob : List Ob} {m : Mp} {cn : Nat → Cnt}

theorem Ext.put (hi : Inv X w ob m cn) {p N : Nat} {d : Cnt} (hN : ob.length ≤ N) (hd : ∀ z, d z ≤ cn N z)
    {cn' : Nat → Cnt} (hcn : cn' = upd (upd cn N (fun z => cn N z - d z)) p (fun z => cn p z + d z)) (hlt : p < ob.length) : Ext X w m cn w m cn' := by
  have hpN : p ≠ N := by omega
  have e1 : cn' p = fun z => cn p z + d z := by rw [hcn]; exact upd_same _ _ _
  have e2 : cn' N = fun z => cn N z - d z := by rw [hcn, upd_other _ _ (Ne.symm hpN), upd_same]
  have e3 : ∀ i, i ≠ p → i ≠ N → cn' i = cn i := fun i h1 h2 => by rw [hcn, upd_other _ _ h1, upd_other _ _ h2]
  have hpos : ∀ i z, 0 < cn' i z → (i = p ∧ 0 < d z ∧ 0 < cn N z) ∨ (0 < cn i z ∧ (i = N → d z = 0)) := by
    intro i z h
    by_cases h1 : i = p
    · subst h1
      rw [e1] at h
      have h : 0 < cn i z + d z := h
      rcases Nat.eq_zero_or_pos (d z) with h0 | h0
      · exact .inr ⟨by omega, fun e => absurd e hpN⟩
      · exact .inl ⟨rfl, h0, by have := hd z; omega⟩
    · by_cases h2 : i = N
      · subst h2
        rw [e2] at h
        have h : 0 < cn i z - d z := h
        have := hi.one i z
        exact .inr ⟨by omega, fun _ => by omega⟩
      · rw [e3 i h1 h2] at h; exact .inr ⟨h, fun e => absurd e h2⟩
  refine ⟨Nat.le_refl _, fun b _ hf => ⟨⟨hf.1, fun i => ?_⟩, rfl⟩, fun _ _ h => ⟨h, rfl⟩⟩
  rcases Nat.eq_zero_or_pos (cn' i b) with h | h
  · exact h
  · rcases hpos i b h with ⟨_, _, h⟩ | ⟨h, _⟩
    · have := hf.2 N; omega
    · have := hf.2 i; omega

/-- what was handed out goes into an object -/
theorem Inv.put (hi : Inv X w ob m cn) {p N k : Nat} {xs ys : List V} {d : Cnt} (hN : ob.length ≤ N) (hp : ob[p]? = some (some (k, xs))) (hd : ∀ z, d z ≤ cn N z)
    {cn' : Nat → Cnt} (hcn : cn' = upd (upd cn N (fun z => cn N z - d z)) p (fun z => cn p z + d z)) (hnew : obOK w (frz X cn') m (fun z => cn p z + d z) p (some (k, ys))) :
    Inv X w (ob.set p (some (k, ys))) m cn' ∧ Ext X w m cn w m cn' := by
  have hlt := (List.getElem?_eq_some_iff.1 hp).1
  have hpN : p ≠ N := by omega
  have e1 : cn' p = fun z => cn p z + d z := by rw [hcn]; exact upd_same _ _ _
  have e2 : cn' N = fun z => cn N z - d z := by rw [hcn, upd_other _ _ (Ne.symm hpN), upd_same]
  have e3 : ∀ i, i ≠ p → i ≠ N → cn' i = cn i := fun i h1 h2 => by rw [hcn, upd_other _ _ h1, upd_other _ _ h2]
  have hpos : ∀ i z, 0 < cn' i z → (i = p ∧ 0 < d z ∧ 0 < cn N z) ∨ (0 < cn i z ∧ (i = N → d z = 0)) := by
    intro i z h
    by_cases h1 : i = p
    · subst h1
      rw [e1] at h
      have h : 0 < cn i z + d z := h
      rcases Nat.eq_zero_or_pos (d z) with h0 | h0
      · exact .inr ⟨by omega, fun e => absurd e hpN⟩
      · exact .inl ⟨rfl, h0, by have := hd z; omega⟩
    · by_cases h2 : i = N
      · subst h2
        rw [e2] at h
        have h : 0 < cn i z - d z := h
        have := hi.one i z
        exact .inr ⟨by omega, fun _ => by omega⟩
      · rw [e3 i h1 h2] at h; exact .inr ⟨h, fun e => absurd e h2⟩
  have hext : Ext X w m cn w m cn' := by
    refine ⟨Nat.le_refl _, fun b _ hf => ⟨⟨hf.1, fun i => ?_⟩, rfl⟩, fun _ _ h => ⟨h, rfl⟩⟩
    rcases Nat.eq_zero_or_pos (cn' i b) with h | h
    · exact h
    · rcases hpos i b h with ⟨_, _, h⟩ | ⟨h, _⟩
      · have := hf.2 N; omega
      · have := hf.2 i; omega
  refine ⟨⟨hi.le, hi.kept, hi.os, hi.tape, hi.output, fun i o ho => ?_, fun b i j h1 h2 => ?_, fun i b => ?_, fun i b h => ?_, fun i h => hi.fresh i (by simpa using h), hi.pas, hi.mlt, by simpa using hi.n0, hi.shp⟩, hext⟩
  · by_cases h : i = p
    · subst h
      rw [List.getElem?_set_self hlt] at ho
      cases ho
      rw [e1]
      exact hnew
    · rw [List.getElem?_set_ne (Ne.symm h)] at ho
      have := (List.getElem?_eq_some_iff.1 ho).1
      exact (hi.obj i o ho).ext hext (e3 i h (by omega)) rfl (fun _ _ => rfl)
  · rcases hpos i b h1 with ⟨rfl, a1, a2⟩ | ⟨a1, a2⟩ <;> rcases hpos j b h2 with ⟨rfl, b1, b2⟩ | ⟨b1, b2⟩
    · rfl
    · have := hi.dis b N j a2 b1
      have := b2 this.symm
      omega
    · have := hi.dis b N i b2 a1
      have := a2 this.symm
      omega
    · exact hi.dis b i j a1 b1
  · by_cases h1 : i = p
    · subst h1
      rw [e1]
      show cn i b + d b ≤ 1
      have a1 := hi.one i b
      have a2 := hi.one N b
      have a3 := hd b
      rcases Nat.eq_zero_or_pos (d b) with h | h
      · omega
      · rcases Nat.eq_zero_or_pos (cn i b) with h' | h'
        · omega
        · exact absurd (hi.dis b i N h' (by omega)) hpN
    · by_cases h2 : i = N
      · subst h2; rw [e2]; have := hi.one i b; show cn i b - d b ≤ 1; omega
      · rw [e3 i h1 h2]; exact hi.one i b
  · rcases hpos i b h with ⟨rfl, _, h⟩ | ⟨h, _⟩
    · exact hi.new N b h
    · exact hi.new i b h

/-- a cell that refers to a whole object takes the object in -/
def St.absorb (p e j : Nat) (s : St) : Option St :=
  match s.ob[p]? with
  | some (some (kp, xs)) => match (xs.getD e .junk).cells[j]? with
    | some (.arr id 0 n) => match s.ob[id]? with
      | some (some (k, ys)) => if e < xs.length ∧ p ≠ id ∧ n ≤ ys.length ∧ pureL ys = true then
          some ⟨s.tm, (s.ob.set id none).set p (some (kp, xs.set e (setC (xs.getD e .junk) j [.lst true k (ys.take n)])))⟩ else none
      | _ => none
    | _ => none
  | _ => none

theorem Le.absorb (p e j : Nat) {s s' : St} (h : s.absorb p e j = some s') : Le X s s' := by
  unfold St.absorb at h
  split at h
  · rename_i kp xs hp
    split at h
    · rename_i id n hcell
      split at h
      · rename_i k ys hid
        split at h
        · rename_i hc
          obtain ⟨he, hne, hn, hpure⟩ := hc
          cases h
          intro w m cn a hi hs
          -- the object and its cell
          have hplt := (List.getElem?_eq_some_iff.1 hp).1
          have hidlt := (List.getElem?_eq_some_iff.1 hid).1
          obtain ⟨b, hm⟩ : ∃ b, m p = some (b, kp) := by
            rcases hi.obj p _ hp with ⟨h0, _, _⟩ | ⟨b, _, _, _, h1, _⟩
            · rw [h0] at he; simp at he
            · exact ⟨b, h1⟩
          obtain ⟨_, cur, el, c, hb, hk, hl, hR, hcn⟩ := hi.object hp hm
          have hE := uni_at hk he
          have hjl : j < (xs.getD e .junk).cells.length := (List.getElem?_eq_some_iff.1 hcell).1
          have hvc : okCells [V.lst true k (ys.take n)] = true := by simp [okCells, V.cellOK]
          have hcells := setC_cells (e := xs.getD e .junk) (j := j) (vc := [V.lst true k (ys.take n)]) (by show j + 1 ≤ _; omega) hvc (by simp)
          have hflat := flat_set hk he hcells (by show j + 1 ≤ _; omega)
          have hk2 : uni kp (xs.set e (setC (xs.getD e .junk) j [V.lst true k (ys.take n)])) := by
            intro x hx
            rcases List.mem_or_eq_of_mem_set hx with h | h
            · exact hk x h
            · rw [h, hcells, List.length_append, List.length_append, List.length_take, List.length_drop]; show min j _ + 1 + (_ - (j + 1)) = _; omega
          -- the old cells: ahead, the cell, behind
          have hfl := flat_length hk
          have hq : e * kp + j < (flat xs).length := by
            rw [hfl]
            have : (e + 1) * kp ≤ xs.length * kp := Nat.mul_le_mul_right kp he
            rw [Nat.add_mul] at this; omega
          have hat : (flat xs)[e * kp + j]? = some (.arr id 0 n) := by
            rw [flat_at he, List.append_assoc, List.getElem?_append_right (by rw [flat_take_length hk (Nat.le_of_lt he)]; omega), flat_take_length hk (Nat.le_of_lt he),
              show e * kp + j - e * kp = j from by omega, List.getElem?_append_left hjl]
            exact hcell
          have hsp : flat xs = (flat xs).take (e * kp + j) ++ ([V.arr id 0 n] ++ (flat xs).drop (e * kp + j + 1)) := by
            conv => lhs; rw [← List.take_append_drop (e * kp + j) (flat xs)]
            rw [List.drop_eq_getElem_cons hq]
            have : (flat xs)[e * kp + j] = .arr id 0 n := by
              have := List.getElem?_eq_getElem hq
              rw [hat] at this
              exact (Option.some.inj this).symm
            rw [this]; rfl
          have hAl : ((flat xs).take (e * kp + j)).length = e * kp + j := by rw [List.length_take]; omega
          -- the object is handed out
          have hN : s.ob.length ≤ s.ob.length := Nat.le_refl _
          have hneN : id ≠ s.ob.length := by omega
          have hRs := hR
          rw [hsp] at hRs
          obtain ⟨d1, d2, hA, hBC, hd12⟩ := R.split hRs
          rw [hAl, Nat.zero_add] at hBC
          generalize hz : d2 = d2' at hBC
          cases hBC with
          | @ccons _ _ _ _ _ u cB cC _ hcu hone hB hC hd2 =>
            have hcB : ∀ z, cB z = 0 := R.free0 hB rfl
            obtain ⟨d, hT1, hT2⟩ := take_arr hi hid hn hpure hN (hB.zero hcB)
            have hg := hi.give hN hidlt
            have hp' : (s.ob.set id none)[p]? = some (some (kp, xs)) := by rw [List.getElem?_set_ne (Ne.symm hne)]; exact hp
            have hgp : Ev.give cn id s.ob.length p = cn p := give_other cn hne (by omega)
            have hput := hg.put (p := p) (N := s.ob.length) (ys := xs.set e (setC (xs.getD e .junk) j [V.lst true k (ys.take n)])) (d := d) (by simp) hp' (fun z => by have := hT2 z; omega) rfl ?_
            · exact ⟨m, _, hput.1, hput.2.Sl ((Ext.give hneN).Sl hs)⟩
            · have hx1 : Ext X w m cn w m (Ev.give cn id s.ob.length) := Ext.give hneN
              have hx2 := Ext.put (X := X) hg (p := p) (N := s.ob.length) (d := d) (by simp) (fun z => by have := hT2 z; omega) rfl (by simpa using hplt)
              have tr1 : ∀ {ys : List V} {off : Nat} {c : Cnt}, R w (frz X cn) m (.cells b off ys) c → R w (frz X (upd (upd (Ev.give cn id s.ob.length) s.ob.length (fun z => Ev.give cn id s.ob.length s.ob.length z - d z)) p (fun z => Ev.give cn id s.ob.length p z + d z))) m (.cells b off ys) c :=
                fun h => h.mono (Nat.le_refl _) (fun b hb hf => ⟨(hx2.fr b hb (hx1.fr b hb hf).1).1, rfl⟩) (fun _ _ => rfl) (.inr rfl) (fun _ _ h => ⟨h, rfl⟩)
              have hT3 := hT1.mono (fr' := frz X (upd (upd (Ev.give cn id s.ob.length) s.ob.length (fun z => Ev.give cn id s.ob.length s.ob.length z - d z)) p (fun z => Ev.give cn id s.ob.length p z + d z))) (m' := m)
                (Nat.le_refl _) hx2.fr (fun _ _ => rfl) trivial (fun _ _ h => ⟨h, rfl⟩)
              refine .inr ⟨b, cur, el, fun z => d1 z + (d z + cC z), hm, hb, hk2, by rw [List.length_set]; exact hl, ?_, fun z => ?_⟩
              · rw [hflat, List.append_assoc]
                refine R.join (c1 := d1) (c2 := fun z => d z + cC z) (tr1 hA) ?_
                rw [hAl, Nat.zero_add]
                exact .ccons hcu hone hT3 (tr1 hC) (fun _ => rfl)
              · have q1 := hcn z
                have q2 := hd12 z
                have q3 := hd2 z
                have q4 := hcB z
                have q5 := congrFun hgp z
                rw [hz] at q2
                simp only
                omega
        · cases h
      · cases h
    · cases h
  · cases h

end
end Go.Ev
/-! Merging of two ways, objects and all; what is dead goes. -/
namespace Go.Ev
open Go

/-- two lists in one -/
def mrgL {α : Type} (b : Bool) : List α → List α → List α
  | x :: xs, y :: ys => (bif b then x else y) :: mrgL b xs ys
  | xs, ys => bif b then xs else ys
def St.mrg2 (b : Bool) (s1 s0 : St) : St := ⟨mrgL b s1.tm s0.tm, mrgL b s1.ob s0.ob⟩

theorem mrgL_true {α : Type} : ∀ (l1 l2 : List α), mrgL true l1 l2 = l1
  | [], [] => rfl
  | [], _ :: _ => rfl
  | _ :: _, [] => rfl
  | x :: xs, y :: ys => by simp only [mrgL, cond_true, mrgL_true xs ys]
theorem mrgL_false {α : Type} : ∀ (l1 l2 : List α), mrgL false l1 l2 = l2
  | [], [] => rfl
  | [], _ :: _ => rfl
  | _ :: _, [] => rfl
  | x :: xs, y :: ys => by simp only [mrgL, cond_false, mrgL_false xs ys]
theorem mrg2_true {s1 s0 : St} : St.mrg2 true s1 s0 = s1 := by
  unfold St.mrg2
  rw [mrgL_true, mrgL_true]
theorem mrg2_false {s1 s0 : St} : St.mrg2 false s1 s0 = s0 := by
  unfold St.mrg2
  rw [mrgL_false, mrgL_false]

section
variable {P : Program} {X : Ctx} {T : Nat → Option TI} {ops : Array Oper} {l : List Oper} {st s1 s2 : St} {Q : Exit → St → Prop}

theorem Runs.weak {s3 : St} (h : Runs P X ops l st s1) (hl : Le X s1 s3) : Runs P X ops l st s3 := fun rest Q hk => h rest Q (WL_le hl hk)

theorem Runs.mrgK (k d : Nat) (ks : List Nat) {b : Bool} {s0 : St} (hd : st.tm[d]? = some (.bool b))
    (h1 : b = true → Runs P X ops (l.take k) ⟨st.tm.set d (.bool true), st.ob⟩ s1) (h0 : b = false → Runs P X ops (l.take k) ⟨st.tm.set d (.bool false), st.ob⟩ s0)
    (hk : Runs P X ops (l.drop k) (St.mrg2 b (s1.keep ks) (s0.keep ks)) s2) : Runs P X ops l st s2 := by
  refine Runs.trans k ?_ hk
  have hset : ∀ c : Bool, b = c → (⟨st.tm.set d (.bool c), st.ob⟩ : St) = st := fun c hc => by
    subst hc
    rw [set_same hd]
  cases b with
  | true => rw [mrg2_true]; have := h1 rfl; rw [hset true rfl] at this; exact this.weak (Le.keep ks s1)
  | false => rw [mrg2_false]; have := h0 rfl; rw [hset false rfl] at this; exact this.weak (Le.keep ks s0)

theorem RunsQ.weak {ks : List Nat} (h : RunsQ P X ops l st s1) : RunsQ P X ops l st (s1.keep ks) :=
  ⟨h.1, fun w m cn a rest Qf hi hs hd hq => h.2 w m cn a rest Qf hi hs hd fun a' hs' hd' => hq a' (keepI_R _ 0 ks _ hs') hd'⟩

theorem RunsQ.mrgK (k d : Nat) (ks : List Nat) {b : Bool} {s0 : St} (hd : st.tm[d]? = some (.bool b))
    (h1 : b = true → RunsQ P X ops (l.take k) ⟨st.tm.set d (.bool true), st.ob⟩ s1) (h0 : b = false → RunsQ P X ops (l.take k) ⟨st.tm.set d (.bool false), st.ob⟩ s0)
    (hk : RunsQ P X ops (l.drop k) ⟨(St.mrg2 b (s1.keep ks) (s0.keep ks)).tm, st.ob⟩ s2) : RunsQ P X ops l st s2 := by
  refine RunsQ.trans k ?_ hk
  have hset : ∀ c : Bool, b = c → (⟨st.tm.set d (.bool c), st.ob⟩ : St) = st := fun c hc => by
    subst hc
    rw [set_same hd]
  cases b with
  | true =>
    have := (h1 rfl).weak (ks := ks)
    rw [hset true rfl] at this
    have e : (⟨(St.mrg2 true (s1.keep ks) (s0.keep ks)).tm, st.ob⟩ : St) = s1.keep ks := by
      rw [mrg2_true, ← this.1]
    rw [e]; exact this
  | false =>
    have := (h0 rfl).weak (ks := ks)
    rw [hset false rfl] at this
    have e : (⟨(St.mrg2 false (s1.keep ks) (s0.keep ks)).tm, st.ob⟩ : St) = s0.keep ks := by
      rw [mrg2_false, ← this.1]
    rw [e]; exact this

theorem Runs.fin (h : st = s1) : Runs P X ops [] st s1 := h ▸ Runs.nil
theorem RunsQ.fin (h : st = s1) : RunsQ P X ops [] st s1 := h ▸ RunsQ.nil

/-- a region, then the rest: what is dead goes -/
theorem W_rseqK {id : Nat} {y : Code} (ks : List Nat) (h : Runs P X ops ops.toList st s1) (hk : W P X y (s1.keep ks) Q) : W P X (.seq (.region id ops false) y) st Q :=
  W_rseq h (W_le (Le.keep ks s1) hk)
theorem W_dseqK {id : Nat} {y : Code} (ks : List Nat) (hm : P.follows .mixedOrders = true) (hB : Region.lexB .any ops = true) (h : RunsQ P X ops ops.toList st s1) (hk : W P X y (s1.keep ks) Q) : W P X (.seq (.region id ops true) y) st Q :=
  W_dseq hm hB h (W_le (Le.keep ks s1) hk)
theorem W_tseqK {id : Nat} {ls : List Oper} {y : Code} (ks : List Nat) (n : Nat) (hm : P.follows .mixedOrders = true) (hB : Region.lexTailB .any ls.toArray n = true) (h : RunsS P X ls.toArray (ls.take n) st s1) (h2 : Runs P X ls.toArray (ls.drop n) s1 s2)
    (hk : W P X y (s2.keep ks) Q) : W P X (.seq (.region id ls.toArray true) y) st Q := W_tseq n hm hB h h2 (W_le (Le.keep ks s2) hk)

/-- a condition whose two branches come together -/
theorem W_condK {c : Operand} {x y z : Code} {b : Bool} {s0 : St} (ks : List Nat) (hc : val st c = .bool b)
    (h1 : b = true → W P X x st (thenQ (fun s => Le X s (s1.keep ks)) Q)) (h0 : b = false → W P X y st (thenQ (fun s => Le X s (s0.keep ks)) Q))
    (hk : W P X z (St.mrg2 b (s1.keep ks) (s0.keep ks)) Q) : W P X (.seq (.cond c x y) z) st Q := by
  refine W_seq (W_cond hc (fun hb => ?_) (fun hb => ?_))
  · subst hb
    rw [mrg2_true] at hk
    refine W_mono (h1 rfl) fun e s hq => ?_
    cases e <;> first | exact W_le hq hk | exact hq
  · subst hb
    rw [mrg2_false] at hk
    refine W_mono (h0 rfl) fun e s hq => ?_
    cases e <;> first | exact W_le hq hk | exact hq
end

@[simp] theorem cond_some {α : Type} (b : Bool) (x y : α) : (bif b then some x else some y) = some (bif b then x else y) := by cases b <;> rfl
@[simp] theorem cond_obj (b : Bool) (k : Nat) (x y : List V) : (bif b then (k, x) else (k, y)) = (k, bif b then x else y) := by cases b <;> rfl
@[simp] theorem cond_vcons (b : Bool) (x y : V) (xs ys : List V) : (bif b then x :: xs else y :: ys) = (bif b then x else y) :: (bif b then xs else ys) := by cases b <;> rfl
@[simp] theorem cond_vagg2 (b : Bool) (xs ys : List V) : (bif b then V.agg xs else V.agg ys) = V.agg (bif b then xs else ys) := by cases b <;> rfl
@[simp] theorem cond_vtup2 (b : Bool) (xs ys : List V) : (bif b then V.tup xs else V.tup ys) = V.tup (bif b then xs else ys) := by cases b <;> rfl
@[simp] theorem cond_vptr (b : Bool) (i j k i' j' k' : Nat) : (bif b then V.ptr i j k else V.ptr i' j' k') = V.ptr (bif b then i else i') (bif b then j else j') (bif b then k else k') := by cases b <;> rfl
@[simp] theorem cond_varr (b : Bool) (i j k i' j' k' : Nat) : (bif b then V.arr i j k else V.arr i' j' k') = V.arr (bif b then i else i') (bif b then j else j') (bif b then k else k') := by cases b <;> rfl
@[simp] theorem cond_vclo (b : Bool) (f : Fn) (xs ys xs' ys' : List V) : (bif b then V.clo f xs ys else V.clo f xs' ys') = V.clo f (bif b then xs else xs') (bif b then ys else ys') := by cases b <;> rfl
@[simp] theorem cond_vfp (b : Bool) (x y : List V) : (bif b then V.fp x else V.fp y) = V.fp (bif b then x else y) := by cases b <;> rfl
end Go.Ev
