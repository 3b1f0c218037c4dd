/- Part 6 of what the proofs lean on: what the functions of the program and of the reference compute. Conditions: none. -/
import Derived.Test.YtfdanoafhehjnaaGreatK04
import Derived.Test.YtfdanoafhehjnaaGreatProg
set_option linter.all false
set_option linter.unusedVariables false
set_option linter.unusedSimpArgs false
set_option maxHeartbeats 2000000
set_option maxRecDepth 100000
namespace Go.Proofs
open Go Go.Ev
def TT : Nat → Option TI
  | 2 => some ⟨.int .i64, 1, 8, .int .i64 0, false⟩
  | 3 => some ⟨.int .i64, 1, 8, .int .i64 0, false⟩
  | 4 => some ⟨.bool, 1, 1, .bool false, false⟩
  | 5 => some ⟨.int .u8, 1, 1, .int .u8 0, false⟩
  | 9 => some ⟨.str, 1, 16, .str [], false⟩
  | 22 => some ⟨.slice 5, 1, 24, .raw (.slice none 0 0), false⟩
  | 23 => some ⟨.slice 89, 1, 24, .raw (.slice none 0 0), false⟩
  | 25 => some ⟨.struct [(0, 2), (1, 9), (2, 2)], 3, 32, .agg [.int .i64 0, .str [], .int .i64 0], true⟩
  | 32 => some ⟨.slice 25, 1, 24, .raw (.slice none 0 0), false⟩
  | 34 => some ⟨.struct [(0, 32), (1, 32)], 2, 48, .agg [.raw (.slice none 0 0), .raw (.slice none 0 0)], false⟩
  | 38 => some ⟨.struct [(0, 34), (2, 2)], 3, 56, .agg [.raw (.slice none 0 0), .raw (.slice none 0 0), .int .i64 0], false⟩
  | 44 => some ⟨.slice 97, 1, 24, .raw (.slice none 0 0), false⟩
  | 46 => some ⟨.slice 9, 1, 24, .raw (.slice none 0 0), false⟩
  | 54 => some ⟨.slice 70, 1, 24, .raw (.slice none 0 0), false⟩
  | 56 => some ⟨.struct [(0, 54), (1, 2)], 2, 32, .agg [.raw (.slice none 0 0), .int .i64 0], false⟩
  | 60 => some ⟨.struct [(0, 2), (1, 2)], 2, 16, .agg [.int .i64 0, .int .i64 0], true⟩
  | 62 => some ⟨.struct [(0, 56), (2, 60), (4, 2)], 5, 56, .agg [.raw (.slice none 0 0), .int .i64 0, .int .i64 0, .int .i64 0, .int .i64 0], false⟩
  | 68 => some ⟨.slice 60, 1, 24, .raw (.slice none 0 0), false⟩
  | 70 => some ⟨.struct [(0, 2), (1, 9), (2, 4), (3, 68)], 4, 56, .agg [.int .i64 0, .str [], .bool false, .raw (.slice none 0 0)], false⟩
  | 72 => some ⟨.ptr 122, 1, 8, .raw (.pointer none), false⟩
  | 77 => some ⟨.ptr 182, 1, 8, .raw (.pointer none), false⟩
  | 80 => some ⟨.fn, 1, 8, .raw .nilFunc, false⟩
  | 83 => some ⟨.fn, 1, 8, .raw .nilFunc, false⟩
  | 86 => some ⟨.slice 128, 1, 24, .raw (.slice none 0 0), false⟩
  | 87 => some ⟨.slice 167, 1, 24, .raw (.slice none 0 0), false⟩
  | 89 => some ⟨.struct [(0, 9), (1, 9), (2, 4), (3, 4), (4, 86), (5, 87)], 6, 88, .agg [.str [], .str [], .bool false, .bool false, .raw (.slice none 0 0), .raw (.slice none 0 0)], false⟩
  | 94 => some ⟨.slice 206, 1, 24, .raw (.slice none 0 0), false⟩
  | 95 => some ⟨.slice 211, 1, 24, .raw (.slice none 0 0), false⟩
  | 97 => some ⟨.struct [(0, 9), (1, 9), (2, 4), (3, 4), (4, 94), (5, 95)], 6, 88, .agg [.str [], .str [], .bool false, .bool false, .raw (.slice none 0 0), .raw (.slice none 0 0)], false⟩
  | 108 => some ⟨.ptr 56, 1, 8, .raw (.pointer none), false⟩
  | 111 => some ⟨.fn, 1, 8, .raw .nilFunc, false⟩
  | 120 => some ⟨.int .u64, 1, 8, .int .u64 0, false⟩
  | 122 => some ⟨.struct [(0, 22), (1, 3), (2, 120), (3, 2)], 4, 48, .agg [.raw (.slice none 0 0), .int .i64 0, .int .u64 0, .int .i64 0], false⟩
  | 128 => some ⟨.struct [(0, 9), (1, 9), (2, 4)], 3, 40, .agg [.str [], .str [], .bool false], true⟩
  | 133 => some ⟨.struct [(0, 2), (1, 2)], 2, 16, .agg [.int .i64 0, .int .i64 0], true⟩
  | 149 => some ⟨.ptr 152, 1, 8, .raw (.pointer none), false⟩
  | 152 => some ⟨.struct [(0, 46), (1, 22)], 2, 48, .agg [.raw (.slice none 0 0), .raw (.slice none 0 0)], false⟩
  | 155 => some ⟨.ptr 158, 1, 8, .raw (.pointer none), false⟩
  | 158 => some ⟨.struct [(0, 46), (1, 22)], 2, 48, .agg [.raw (.slice none 0 0), .raw (.slice none 0 0)], false⟩
  | 164 => some ⟨.slice 224, 1, 24, .raw (.slice none 0 0), false⟩
  | 165 => some ⟨.slice 226, 1, 24, .raw (.slice none 0 0), false⟩
  | 167 => some ⟨.struct [(0, 9), (1, 9), (2, 4), (3, 4), (4, 4), (5, 2), (6, 2), (7, 164), (8, 165)], 9, 104, .agg [.str [], .str [], .bool false, .bool false, .bool false, .int .i64 0, .int .i64 0, .raw (.slice none 0 0), .raw (.slice none 0 0)], false⟩
  | 172 => some ⟨.slice 2, 1, 24, .raw (.slice none 0 0), false⟩
  | 180 => some ⟨.map 9 3, 1, 8, .raw (.map none), false⟩
  | 182 => some ⟨.struct [(0, 23), (1, 180)], 2, 32, .agg [.raw (.slice none 0 0), .raw (.map none)], false⟩
  | 189 => some ⟨.fn, 1, 8, .raw .nilFunc, false⟩
  | 190 => some ⟨.ptr 192, 1, 8, .raw (.pointer none), false⟩
  | 192 => some ⟨.struct [(0, 9), (1, 2), (2, 4)], 3, 32, .agg [.str [], .int .i64 0, .bool false], true⟩
  | 196 => some ⟨.fn, 1, 8, .raw .nilFunc, false⟩
  | 197 => some ⟨.fn, 1, 8, .raw .nilFunc, false⟩
  | 200 => some ⟨.slice 197, 1, 24, .raw (.slice none 0 0), false⟩
  | 206 => some ⟨.struct [(0, 9), (1, 9), (2, 4)], 3, 40, .agg [.str [], .str [], .bool false], true⟩
  | 208 => some ⟨.slice 295, 1, 24, .raw (.slice none 0 0), false⟩
  | 209 => some ⟨.slice 297, 1, 24, .raw (.slice none 0 0), false⟩
  | 211 => some ⟨.struct [(0, 9), (1, 9), (2, 4), (3, 4), (4, 4), (5, 2), (6, 2), (7, 208), (8, 209)], 9, 104, .agg [.str [], .str [], .bool false, .bool false, .bool false, .int .i64 0, .int .i64 0, .raw (.slice none 0 0), .raw (.slice none 0 0)], false⟩
  | 224 => some ⟨.struct [(0, 2), (1, 2), (2, 9), (3, 9), (4, 9)], 5, 64, .agg [.int .i64 0, .int .i64 0, .str [], .str [], .str []], true⟩
  | 226 => some ⟨.struct [(0, 2), (1, 2), (2, 2), (3, 9)], 4, 40, .agg [.int .i64 0, .int .i64 0, .int .i64 0, .str []], true⟩
  | 246 => some ⟨.fn, 1, 8, .raw .nilFunc, false⟩
  | 251 => some ⟨.struct [(0, 46), (1, 9)], 2, 40, .agg [.raw (.slice none 0 0), .str []], false⟩
  | 253 => some ⟨.struct [(0, 251), (2, 2), (3, 2)], 4, 56, .agg [.raw (.slice none 0 0), .str [], .int .i64 0, .int .i64 0], false⟩
  | 272 => some ⟨.slice 4, 1, 24, .raw (.slice none 0 0), false⟩
  | 277 => some ⟨.ptr 279, 1, 8, .raw (.pointer none), false⟩
  | 279 => some ⟨.struct [(0, 72), (1, 164), (2, 172), (3, 172), (4, 3)], 5, 88, .agg [.raw (.pointer none), .raw (.slice none 0 0), .raw (.slice none 0 0), .raw (.slice none 0 0), .int .i64 0], false⟩
  | 291 => some ⟨.fn, 1, 8, .raw .nilFunc, false⟩
  | 295 => some ⟨.struct [(0, 2), (1, 2), (2, 9), (3, 9), (4, 9)], 5, 64, .agg [.int .i64 0, .int .i64 0, .str [], .str [], .str []], true⟩
  | 297 => some ⟨.struct [(0, 2), (1, 2), (2, 2), (3, 9)], 4, 40, .agg [.int .i64 0, .int .i64 0, .int .i64 0, .str []], true⟩
  | 305 => some ⟨.fn, 1, 8, .raw .nilFunc, false⟩
  | 306 => some ⟨.int .u32, 1, 4, .int .u32 0, false⟩
  | _ => none
theorem tok : TOK Tryz.prog TT := by
  intro t ti h
  unfold TT at h
  split at h <;> first | (cases h; kernel_rfl) | cases h
theorem hmo : Tryz.prog.follows .mixedOrders = true := by kernel_rfl
attribute [simp] TT
section
variable {X : Ctx} {ops : Array Oper} {l rest : List Oper} {ls : List Oper} {st s0 s1 s2 s3 : St} {o : Oper} {n0 : Nat} {Q : Exit → St → Prop}
theorem jh (hX : X.n0 = n0) (h : runB TT n0 ops l st = some s1) : Runs Tryz.prog X ops l st s1 := Runs.run tok hX h
theorem jr (hX : X.n0 = n0 := by assumption) (h : runB TT n0 ops l st = some s1 := by simp; rfl) : Runs Tryz.prog X ops l st s1 := Runs.run tok hX h
theorem js (hX : X.n0 = n0) (k : Nat) (h1 : runB TT n0 ops (l.take k) st = some s1) (h2 : Runs Tryz.prog X ops (l.drop k) s1 s2) : Runs Tryz.prog X ops l st s2 := Runs.step k tok hX h1 h2
theorem jt (n : Nat) (hX : X.n0 = n0 := by assumption) (h1 : runB TT n0 ops (l.take n) st = some s1 := by simp; rfl) (k : Runs Tryz.prog X ops (l.drop n) s1 s2) : Runs Tryz.prog X ops l st s2 := Runs.step n tok hX h1 k
theorem jf (h : st = s1 := by (try simp); rfl) : Runs Tryz.prog X ops [] st s1 := Runs.fin h
theorem jm (j d : Nat) (ks : List Nat) {b : Bool} {n : Nat} {l1 l0 : List (Nat × V)} {ob1 ob0 : List Ob} {x : Option V} (hd : st.tm[d]? = x := by simp; rfl) (hx : x = some (.bool b) := by rfl)
    (p : b = true → Runs Tryz.prog X ops (l.take j) ⟨st.tm.set d (.bool true), st.ob⟩ s1) (q : b = false → Runs Tryz.prog X ops (l.take j) ⟨st.tm.set d (.bool false), st.ob⟩ s0)
    (e1 : s1 = ⟨sp n l1, ob1⟩ := by rfl) (e0 : s0 = ⟨sp n l0, ob0⟩ := by rfl) (k : Runs Tryz.prog X ops (l.drop j) ⟨sp n (mrgA b (filt ks l1) (filt ks l0)), mrgL b ob1 ob0⟩ s2) : Runs Tryz.prog X ops l st s2 := Runs.mrgS j d ks hd hx p q e1 e0 k
theorem jc {fo : Operand} {as' : Array Operand} {ts : Array TypeId} {f : FuncId} {first cap args' : List V} {obi : List Ob} (ps : List Nat) {r : V} {obc : List Ob}
    (ho : o.op = .call { callee := .value fo, args := as', argTypes := ts } := by rfl) (hg : gd ops st o.guard = some true := by simp) (hf : val st fo = .clo (.func f) first cap := by rfl)
    (ha : mapL (gIn ps) (first ++ as'.toList.map (val st) ++ cap) = args' := by simp; rfl) (hi : obIn st.ob ps = obi := by simp; rfl)
    (c : Ct Tryz.prog f args' obi r obc) (a : Callable Tryz.prog f) (hn : ps.Nodup := by simp) (hlt : ∀ id ∈ ps, id < st.ob.length := by simp) (he : callEnd st o.dst ps r obc = s1 := by simp; rfl) (k : Runs Tryz.prog X ops rest s1 s2) : Runs Tryz.prog X ops (o :: rest) st s2 :=
  Runs.call ps ho hg hf ha hi c a hn hlt he k
theorem jF {fo : Operand} {as' : Array Operand} {ts : Array TypeId} {f : FuncId} {first cap args' : List V} {r : V}
    (ho : o.op = .call { callee := .value fo, args := as', argTypes := ts } := by rfl) (hg : gd ops st o.guard = some true := by simp) (hf : val st fo = .clo (.func f) first cap := by rfl)
    (ha : mapL (gIn []) (first ++ as'.toList.map (val st) ++ cap) = args' := by simp; rfl) (c : Ct Tryz.prog f args' [] r []) (a : Callable Tryz.prog f) (he : (⟨setD o.dst r.fz st.tm, st.ob⟩ : St) = s1 := by simp; rfl) (k : Runs Tryz.prog X ops rest s1 s2) : Runs Tryz.prog X ops (o :: rest) st s2 :=
  Runs.callF ho hg hf ha c a he k
theorem jB {fo : Operand} {as' : Array Operand} {ts : Array TypeId} {f : FuncId} {first cap args' : List V} {r : V}
    (ho : o.op = .call { callee := .value fo, args := as', argTypes := ts } := by rfl) (hg : gd ops st o.guard = some true := by simp) (hf : val st fo = .clo (.func f) first cap := by rfl)
    (ha : borL st.ob (first ++ as'.toList.map (val st) ++ cap) = args' := by simp; rfl) (c : Ct Tryz.prog f args' [] r []) (a : Callable Tryz.prog f) (hsol : r.solid = true := by simp) (he : (⟨setD o.dst (nameV st.ob r).1 st.tm, (nameV st.ob r).2⟩ : St) = s1 := by simp; rfl) (k : Runs Tryz.prog X ops rest s1 s2) : Runs Tryz.prog X ops (o :: rest) st s2 :=
  Runs.callB ho hg hf ha c a hsol he k
theorem jB2 {fo : Operand} {as' : Array Operand} {ts : Array TypeId} {f : FuncId} {first cap args' : List V} {r : V}
    (ho : o.op = .call { callee := .value fo, args := as', argTypes := ts } := by rfl) (hg : gd ops st o.guard = some true := by simp) (hf : val st fo = .clo (.func f) first cap := by rfl)
    (ha : bor2L st.ob (first ++ as'.toList.map (val st) ++ cap) = args' := by simp; rfl) (c : Ct Tryz.prog f args' [] r []) (a : Callable Tryz.prog f) (hsol : r.solid = true := by simp) (he : (⟨setD o.dst (nameV st.ob r).1 st.tm, (nameV st.ob r).2⟩ : St) = s1 := by simp; rfl) (k : Runs Tryz.prog X ops rest s1 s2) : Runs Tryz.prog X ops (o :: rest) st s2 :=
  Runs.callB2 ho hg hf ha c a hsol he k
theorem jQ (h : runQ TT 0 ops l st = some s1) : RunsQ Tryz.prog X ops l st s1 := RunsQ.run tok h
theorem jS (k : Nat) (h1 : runQ TT 0 ops (l.take k) st = some s1) (h2 : RunsQ Tryz.prog X ops (l.drop k) s1 s2) : RunsQ Tryz.prog X ops l st s2 := RunsQ.step k tok h1 h2
theorem jM (j d : Nat) (ks : List Nat) {b : Bool} {n : Nat} {l1 l0 : List (Nat × V)} {ob1 ob0 : List Ob} {x : Option V} (hd : st.tm[d]? = x := by simp; rfl) (hx : x = some (.bool b) := by rfl)
    (p : b = true → RunsQ Tryz.prog X ops (l.take j) ⟨st.tm.set d (.bool true), st.ob⟩ s1) (q : b = false → RunsQ Tryz.prog X ops (l.take j) ⟨st.tm.set d (.bool false), st.ob⟩ s0)
    (e1 : s1 = ⟨sp n l1, ob1⟩ := by rfl) (e0 : s0 = ⟨sp n l0, ob0⟩ := by rfl) (k : RunsQ Tryz.prog X ops (l.drop j) ⟨sp n (mrgA b (filt ks l1) (filt ks l0)), st.ob⟩ s2) : RunsQ Tryz.prog X ops l st s2 := RunsQ.mrgS j d ks hd hx p q e1 e0 k
theorem jC {fo : Operand} {as' : Array Operand} {ts : Array TypeId} {f : FuncId} {first cap args' : List V} {r : V}
    (ho : o.op = .call { callee := .value fo, args := as', argTypes := ts } := by rfl) (hg : gd ops st o.guard = some true := by simp) (hf : val st fo = .clo (.func f) first cap := by rfl)
    (ha : borL st.ob (first ++ as'.toList.map (val st) ++ cap) = args' := by simp; rfl) (c : Ct Tryz.prog f args' [] r []) (a : Callable Tryz.prog f) (hdet : r.det = true := by rfl) (k : RunsQ Tryz.prog X ops rest ⟨setD o.dst r st.tm, st.ob⟩ s1) : RunsQ Tryz.prog X ops (o :: rest) st s1 :=
  RunsQ.call ho hg hf ha c a hdet k
theorem jq {id : Nat} {y : Code} (ks : List Nat) (hk : W Tryz.prog X y (s1.keep ks) Q) (hX : X.n0 = n0 := by assumption) (h : runB TT n0 ops ops.toList st = some s1 := by simp; rfl) : W Tryz.prog X (.seq (.region id ops false) y) st Q := W_rseqK ks (Runs.run tok hX h) hk
theorem jD {id : Nat} {y : Code} (ks : List Nat) (h : RunsQ Tryz.prog X ops ops.toList st s1) (hk : W Tryz.prog X y (s1.keep ks) Q) (hB : Region.lexB .any ops = true := by kernel_rfl) : W Tryz.prog X (.seq (.region id ops true) y) st Q := W_dseqK ks hmo hB h hk
theorem jH {i : Nat} {L B : List Nat} {s s' : St} (ho : ops[i]? = some o := by rfl) (hL : ∀ id ∈ L, id < s.ob.length := by simp) (p : ∀ X : Ctx, X.n0 = s.ob.length → Runs Tryz.prog X ops [o] ⟨s.tm, hid L s.ob⟩ s') (he : (⟨s'.tm, unh s.ob L s'.ob⟩ : St) = s1 := by simp; rfl) (k : StepsH Tryz.prog ops L B s1 s2) : StepsH Tryz.prog ops L (i :: B) s s2 := .cons ho hL p he k
theorem jL {id : Nat} {y : Code} (n : Nat) (A B ks L : List Nat) (hX : X.n0 = n0) (hA : runTk TT n0 ls.toArray L A st = some s1) (hH : StepsH Tryz.prog ls.toArray L B s1 s2) (h2 : Runs Tryz.prog X ls.toArray (ls.drop n) s2 s3) (hk : W Tryz.prog X y (s3.keep ks) Q)
    (hB : heldB .any ls.toArray n A B = true := by kernel_rfl) : W Tryz.prog X (.seq (.region id ls.toArray true) y) st Q := W_hseqK ks L hmo hB tok hX hA hH h2 hk
theorem jN {i : Nat} {L : List Nat} {t : Tr} {s s' : St} (ho : ops[i]? = some o := by rfl) (hL : ∀ id ∈ L, id < s.ob.length := by simp) (p : ∀ X : Ctx, X.n0 = s.ob.length → Runs Tryz.prog X ops [o] ⟨s.tm, hid L s.ob⟩ s') (he : (⟨s'.tm, unh s.ob L s'.ob⟩ : St) = s1 := by (try simp); (try rfl)) (k : StepsT Tryz.prog ops L t s1 s2) : StepsT Tryz.prog ops L (.one i t) s s2 := .one ho hL p he k
theorem jK {id : Nat} {y : Code} (n : Nat) (A : List Nat) (t : Tr) (ks L : List Nat) (hX : X.n0 = n0) (hA : runTk TT n0 ls.toArray L A st = some s1) (hH : StepsT Tryz.prog ls.toArray L t s1 s2) (h2 : Runs Tryz.prog X ls.toArray (ls.drop n) s2 s3) (hk : W Tryz.prog X y (s3.keep ks) Q)
    (hB : treeB .any ls.toArray n A t = true := by kernel_rfl) : W Tryz.prog X (.seq (.region id ls.toArray true) y) st Q := W_tseqT n A t ks L hmo hB tok hX hA hH h2 hk
theorem jd {c : Operand} {x y : Code} {t : Bool} {v : V} (h1 : t = true → W Tryz.prog X x st Q) (h2 : t = false → W Tryz.prog X y st Q) (hc : val st c = v := by simp; rfl) (hv : v = .bool t := by rfl) : W Tryz.prog X (.cond c x y) st Q := W_condS hc hv h1 h2
theorem je {fn : Func} {n0 : Nat} {r r' : V} {ob' ob'' : List Ob} {z : Option (V × List Ob)} (h : doneR TT fn n0 st = z) (hr : r' = r) (hz : z = some (r', ob'') := by rfl) (ho : ob'' = ob' := by rfl) : Done TT fn n0 r ob' .ret st := W_retR (h.trans hz) (.of_eq hr) ho
theorem je0 {fn : Func} {n0 : Nat} {r r' : V} {ob' ob'' : List Ob} {z : Option (V × List Ob)} (hr : r' = r) (h : doneR TT fn n0 st = z := by simp; rfl) (hz : z = some (r', ob'') := by rfl) (ho : ob'' = ob' := by rfl) : Done TT fn n0 r ob' .ret st := W_retR (h.trans hz) (.of_eq hr) ho
theorem jn {fn : Func} {n0 : Nat} {r r' : V} {ob' ob'' : List Ob} {z : Option (V × List Ob)} (h : doneR TT fn n0 st = z) (hr : r' = r) (hz : z = some (r', ob'') := by rfl) (ho : ob'' = ob' := by rfl) : Done TT fn n0 r ob' .normal st := W_endR (h.trans hz) (.of_eq hr) ho
theorem jn0 {fn : Func} {n0 : Nat} {r r' : V} {ob' ob'' : List Ob} {z : Option (V × List Ob)} (hr : r' = r) (h : doneR TT fn n0 st = z := by simp; rfl) (hz : z = some (r', ob'') := by rfl) (ho : ob'' = ob' := by rfl) : Done TT fn n0 r ob' .normal st := W_endR (h.trans hz) (.of_eq hr) ho
end
end Go.Proofs
namespace Go.Proofs
open Go Go.Ev

abbrev Str := List UInt8
structure Fld where
  name : Str
  type : Str
  static : Bool
  deriving DecidableEq, Inhabited
structure Ins where
  op : Int
  a : Int
  cls : Str
  name : Str
  desc : Str
  deriving DecidableEq, Inhabited
structure Hdl where
  frm : Int
  upto : Int
  at' : Int
  cls : Str
  deriving DecidableEq, Inhabited
structure Mth where
  name : Str
  desc : Str
  static : Bool
  abstr : Bool
  final : Bool
  stack : Int
  locals : Int
  code : List Ins
  hdls : List Hdl
  deriving DecidableEq, Inhabited
structure Cls where
  name : Str
  super : Str
  final : Bool
  abstr : Bool
  fields : List Fld
  methods : List Mth
  deriving DecidableEq, Inhabited

def eF (x : Fld) : V := .agg [.str x.name, .str x.type, .bool x.static]
def eI (x : Ins) : V := .agg [.int .i64 x.op, .int .i64 x.a, .str x.cls, .str x.name, .str x.desc]
def eH (x : Hdl) : V := .agg [.int .i64 x.frm, .int .i64 x.upto, .int .i64 x.at', .str x.cls]
def eM (x : Mth) : V := .agg [.str x.name, .str x.desc, .bool x.static, .bool x.abstr, .bool x.final, .int .i64 x.stack, .int .i64 x.locals, .lst false 5 (x.code.map eI), .lst false 4 (x.hdls.map eH)]
def eC (x : Cls) : V := .agg [.str x.name, .str x.super, .bool x.final, .bool x.abstr, .lst false 3 (x.fields.map eF), .lst false 9 (x.methods.map eM)]


/-- the same, with memory of its own -/
def oM (x : Mth) : V := .agg [.str x.name, .str x.desc, .bool x.static, .bool x.abstr, .bool x.final, .int .i64 x.stack, .int .i64 x.locals, .lst true 5 (x.code.map eI), .lst true 4 (x.hdls.map eH)]
def oC (x : Cls) : V := .agg [.str x.name, .str x.super, .bool x.final, .bool x.abstr, .lst true 3 (x.fields.map eF), .lst true 9 (x.methods.map oM)]

@[simp] theorem one_slice : (Value.slice none 0 0).oneCell' = true := rfl
@[simp] theorem one_ptr : (Value.pointer none).oneCell' = true := rfl
@[simp] theorem one_map : (Value.map none).oneCell' = true := rfl
theorem pureL_map {α : Type} (f : α → V) (h : ∀ x, (f x).pure = true) (l : List α) : pureL (l.map f) = true := by simp [pureL_all, h]
@[simp] theorem pureL_eF (l : List Fld) : pureL (l.map eF) = true := pureL_map _ (fun _ => rfl) l
@[simp] theorem pureL_eI (l : List Ins) : pureL (l.map eI) = true := pureL_map _ (fun _ => rfl) l
@[simp] theorem pureL_eH (l : List Hdl) : pureL (l.map eH) = true := pureL_map _ (fun _ => rfl) l
@[simp] theorem pureL_eM (l : List Mth) : pureL (l.map eM) = true := pureL_map _ (fun _ => rfl) l
@[simp] theorem pureL_eC (l : List Cls) : pureL (l.map eC) = true := pureL_map _ (fun _ => rfl) l
@[simp] theorem pureL_oM (l : List Mth) : pureL (l.map oM) = true := pureL_map _ (fun _ => rfl) l
@[simp] theorem pureL_oC (l : List Cls) : pureL (l.map oC) = true := pureL_map _ (fun x => by simp [oC, V.pure, pureL]) l
@[simp] theorem take_map_len {α : Type} (f : α → V) (l : List α) : (l.map f).take l.length = l.map f := by rw [List.take_of_length_le]; simp
theorem fzL_mapf {α : Type} (f : α → V) (h : ∀ x, (f x).fz = f x) (l : List α) : fzL (l.map f) = l.map f := by simp [fzL_map, h]
@[simp] theorem fzL_str (l : List Str) : fzL (l.map V.str) = l.map V.str := fzL_mapf _ (fun _ => rfl) l
@[simp] theorem fzL_eF (l : List Fld) : fzL (l.map eF) = l.map eF := fzL_mapf _ (fun _ => rfl) l
@[simp] theorem fzL_eI (l : List Ins) : fzL (l.map eI) = l.map eI := fzL_mapf _ (fun _ => rfl) l
@[simp] theorem fzL_eH (l : List Hdl) : fzL (l.map eH) = l.map eH := fzL_mapf _ (fun _ => rfl) l
@[simp] theorem fzL_eM (l : List Mth) : fzL (l.map eM) = l.map eM := fzL_mapf _ (fun _ => rfl) l
@[simp] theorem fzL_eC (l : List Cls) : fzL (l.map eC) = l.map eC := fzL_mapf _ (fun _ => rfl) l
theorem fz_oM (x : Mth) : (oM x).fz = eM x := by simp [oM, eM, V.fz, fzL, fzL_eI, fzL_eH]
@[simp] theorem fzL_oM (l : List Mth) : fzL (l.map oM) = l.map eM := by simp [fzL_map, fz_oM]
theorem fz_oC (x : Cls) : (oC x).fz = eC x := by simp [oC, eC, V.fz, fzL, fzL_eF, fzL_oM]
@[simp] theorem fzL_oC (l : List Cls) : fzL (l.map oC) = l.map eC := by simp [fzL_map, fz_oC]
@[simp] theorem pureL_str (l : List Str) : pureL (l.map V.str) = true := pureL_map _ (fun _ => rfl) l
theorem jkL_mapf {α : Type} (p : Nat → Bool) (f : α → V) (h : ∀ x, (f x).pure = true) (l : List α) : jkL p (l.map f) = l.map f := jkL_pure p _ (pureL_map f h l)
@[simp] theorem jkL_str (p : Nat → Bool) (l : List Str) : jkL p (l.map V.str) = l.map V.str := jkL_mapf p _ (fun _ => rfl) l
@[simp] theorem jkL_eF (p : Nat → Bool) (l : List Fld) : jkL p (l.map eF) = l.map eF := jkL_mapf p _ (fun _ => rfl) l
@[simp] theorem jkL_eI (p : Nat → Bool) (l : List Ins) : jkL p (l.map eI) = l.map eI := jkL_mapf p _ (fun _ => rfl) l
@[simp] theorem jkL_eH (p : Nat → Bool) (l : List Hdl) : jkL p (l.map eH) = l.map eH := jkL_mapf p _ (fun _ => rfl) l
@[simp] theorem jkL_eM (p : Nat → Bool) (l : List Mth) : jkL p (l.map eM) = l.map eM := jkL_mapf p _ (fun _ => rfl) l
@[simp] theorem jkL_eC (p : Nat → Bool) (l : List Cls) : jkL p (l.map eC) = l.map eC := jkL_mapf p _ (fun _ => rfl) l
@[simp] theorem jkL_oM (p : Nat → Bool) (l : List Mth) : jkL p (l.map oM) = l.map oM := jkL_mapf p _ (fun _ => rfl) l
@[simp] theorem jkL_oC (p : Nat → Bool) (l : List Cls) : jkL p (l.map oC) = l.map oC := jkL_mapf p _ (fun x => by simp [oC, V.pure, pureL]) l
@[simp] theorem nc_inj (a b : Nat) : ((a : Int) = (b : Int)) ↔ a = b := Int.ofNat_inj
@[simp] theorem nc_inj1 (a b : Nat) : ((a : Int) = (b : Int) + 1) ↔ a = b + 1 := by omega
@[simp] theorem nc_inj2 (a b : Nat) : ((a : Int) + 1 = (b : Int)) ↔ a + 1 = b := by omega
@[simp] theorem nc_lt1 (a b : Nat) : ((a : Int) + 1 < (b : Int)) ↔ a + 1 < b := by omega
@[simp] theorem nc_le1 (a b : Nat) : ((a : Int) + 1 ≤ (b : Int)) ↔ a + 1 ≤ b := by omega
@[simp] theorem nc_1lt (a b : Nat) : ((a : Int) < (b : Int) + 1) ↔ a < b + 1 := by omega
@[simp] theorem nc_1le (a b : Nat) : ((a : Int) ≤ (b : Int) + 1) ↔ a ≤ b + 1 := by omega
@[simp] theorem nc_pos1 (a : Nat) : (0 ≤ (a : Int) + 1) ↔ True := iff_true_intro (by omega)
@[simp] theorem nc_ltk (a b k : Nat) : ((a : Int) + (no_index (OfNat.ofNat k) : Int) < (b : Int)) ↔ a + OfNat.ofNat k < b := by show (a : Int) + (k : Int) < b ↔ a + k < b; omega
@[simp] theorem nc_lek (a b k : Nat) : ((a : Int) + (no_index (OfNat.ofNat k) : Int) ≤ (b : Int)) ↔ a + OfNat.ofNat k ≤ b := by show (a : Int) + (k : Int) ≤ b ↔ a + k ≤ b; omega
@[simp] theorem nc_posk (a k : Nat) : (0 ≤ (a : Int) + (no_index (OfNat.ofNat k) : Int)) ↔ True := iff_true_intro (by show 0 ≤ (a : Int) + (k : Int); omega)
@[simp] theorem lit_lt (k n : Nat) : ((no_index (OfNat.ofNat k) : Int) < (n : Int)) ↔ OfNat.ofNat k < n := by show (k : Int) < n ↔ k < n; omega
@[simp] theorem lit_le (k n : Nat) : ((no_index (OfNat.ofNat k) : Int) ≤ (n : Int)) ↔ OfNat.ofNat k ≤ n := by show (k : Int) ≤ n ↔ k ≤ n; omega
@[simp] theorem lit_gt (k n : Nat) : ((n : Int) < (no_index (OfNat.ofNat k) : Int)) ↔ n < OfNat.ofNat k := by show (n : Int) < k ↔ n < k; omega
@[simp] theorem lit_ge (k n : Nat) : ((n : Int) ≤ (no_index (OfNat.ofNat k) : Int)) ↔ n ≤ OfNat.ofNat k := by show (n : Int) ≤ k ↔ n ≤ k; omega
@[simp] theorem lit_eq (k n : Nat) : ((n : Int) = (no_index (OfNat.ofNat k) : Int)) ↔ n = OfNat.ofNat k := by show (n : Int) = k ↔ n = k; omega
@[simp high] theorem int_beq (x y : Int) : (x == y) = decide (x = y) := by by_cases h : x = y <;> simp [h]
@[simp high] theorem int_bne (x y : Int) : (x != y) = !decide (x = y) := by by_cases h : x = y <;> simp [h]
@[simp high] theorem str_beq (x y : List UInt8) : (x == y) = decide (x = y) := by by_cases h : x = y <;> simp [h]
@[simp high] theorem u8_of (c : UInt8) : UInt8.ofNat c.toNat = c := by simp
attribute [simp] atD_lt atL_lt atV_map atV_zero atV_succ
attribute [simp] jkL_append pureL_append limL_append fzL_append mapL_append solidL_append
@[simp] theorem take_app1 {α : Type} (f : α → V) (l : List α) (x : V) : (l.map f ++ [x]).take (l.length + 1) = l.map f ++ [x] := List.take_of_length_le (by simp)
attribute [simp] runTk rdB hid unh
attribute [simp high] sp_get
attribute [simp] borDL V.borD bor2L mrgA sp_set sp_keep sp_jk lkA ins filt jkA argA memN mrgL St.nilC St.nilS St.mrg2 opY lookM bytesV oM oC St.absorb runQ pureOp V.det detL eC eF eM eI eH V.cells runB runU gd opB opX opCall opA val setD opEq opBin arith strOp opIndexAddr opFieldAddr opLoad opIndex opConv opSlice opField sl3 bnd rd TI.isAgg plainFs eqF bld lits srcA
  doneR resL resV takeV takeL limO limL V.lim one? okCells V.cellOK V.pure pureL V.free freeL setC St.mrg callEnd nameV nameL mapL V.mapId wb gOut mapO obIn gIn borL V.bor seen seenK fzL V.fz V.solid solidL St.keep keepI St.trim jkL V.jk jkO St.upd updL updO
end Go.Proofs
namespace Go.Proofs
open Go Go.Ev
structure Src where
  code : List Int
  pos : Nat
  mix : Int
  size : Int
  deriving DecidableEq, Inhabited
@[simp] def bV (n : Int) : V := .int .u8 n
@[simp] def vSrc (s : Src) : V := .agg [.lst false 1 (s.code.map bV), .int .i64 s.pos, .int .u64 s.mix, .int .i64 s.size]
@[simp] def oSrc (s : Src) : Ob := some (4, [vSrc s])
def okS (s : Src) : Prop := s.pos ≤ s.code.length ∧ s.code.length ≤ 1099511627776 ∧ 0 ≤ s.size ∧ s.size ≤ 12
@[simp] theorem pureL_bV (l : List Int) : pureL (l.map bV) = true := pureL_map _ (fun _ => rfl) l
@[simp] theorem fzL_bV (l : List Int) : fzL (l.map bV) = l.map bV := fzL_mapf _ (fun _ => rfl) l
@[simp] theorem jkL_bV (p : Nat → Bool) (l : List Int) : jkL p (l.map bV) = l.map bV := jkL_mapf p _ (fun _ => rfl) l
def mxA (m : Int) : Int := IntKind.u64.wrap ((((m % 2 ^ IntKind.u64.bits).toNat ^^^ (IntKind.u64.wrap (m * 2 ^ min 13 IntKind.u64.bits) % 2 ^ IntKind.u64.bits).toNat : Nat) : Int))
def mxB (m : Int) : Int := IntKind.u64.wrap ((((m % 2 ^ IntKind.u64.bits).toNat ^^^ (m.fdiv (2 ^ min 7 IntKind.u64.bits) % 2 ^ IntKind.u64.bits).toNat : Nat) : Int))
def mxC (m : Int) : Int := IntKind.u64.wrap ((((m % 2 ^ IntKind.u64.bits).toNat ^^^ (IntKind.u64.wrap (m * 2 ^ min 17 IntKind.u64.bits) % 2 ^ IntKind.u64.bits).toNat : Nat) : Int))
theorem mxA_eq (m : Int) : mxA m = IntKind.u64.wrap ((((m % 2 ^ IntKind.u64.bits).toNat ^^^ (IntKind.u64.wrap (m * 2 ^ min 13 IntKind.u64.bits) % 2 ^ IntKind.u64.bits).toNat : Nat) : Int)) := rfl
theorem mxB_eq (m : Int) : mxB m = IntKind.u64.wrap ((((m % 2 ^ IntKind.u64.bits).toNat ^^^ (m.fdiv (2 ^ min 7 IntKind.u64.bits) % 2 ^ IntKind.u64.bits).toNat : Nat) : Int)) := rfl
theorem mxC_eq (m : Int) : mxC m = IntKind.u64.wrap ((((m % 2 ^ IntKind.u64.bits).toNat ^^^ (IntKind.u64.wrap (m * 2 ^ min 17 IntKind.u64.bits) % 2 ^ IntKind.u64.bits).toNat : Nat) : Int)) := rfl
def mx (m : Int) : Int := mxC (mxB (mxA m))
def nS (s : Src) (m : Int) : Src := if m ≤ 1 then s else ⟨s.code, if s.pos < s.code.length then s.pos + 1 else s.pos, mx s.mix, s.size⟩
def n0V (s : Src) : Int := if h : s.pos < s.code.length then IntKind.u64.wrap s.code[s.pos] else 0
def nV (s : Src) (m : Int) : Int := if m ≤ 1 then 0 else IntKind.i64.wrap ((IntKind.u64.wrap (n0V s + (mx s.mix).fdiv (2 ^ min 20 IntKind.u64.bits))).tmod m)
theorem wrap_u64 {z : Int} (h1 : 0 ≤ z) (h2 : z < 18446744073709551616) : IntKind.u64.wrap z = z := by
  unfold IntKind.wrap
  simp [IntKind.signed, IntKind.bits]
  omega
theorem wrap_u64_r (z : Int) : 0 ≤ IntKind.u64.wrap z ∧ IntKind.u64.wrap z < 18446744073709551616 := by
  unfold IntKind.wrap
  simp [IntKind.signed, IntKind.bits]
  omega
attribute [irreducible] mx
theorem nV_r (s : Src) {m : Int} (hm : m < 9223372036854775808) : 0 ≤ nV s m ∧ (1 < m → nV s m < m) ∧ (m ≤ 1 → nV s m = 0) := by
  unfold nV
  split
  · exact ⟨by omega, by omega, by omega⟩
  · rename_i h
    obtain ⟨h1, h2⟩ := wrap_u64_r (n0V s + (mx s.mix).fdiv (2 ^ min 20 IntKind.u64.bits))
    generalize IntKind.u64.wrap (n0V s + (mx s.mix).fdiv (2 ^ min 20 IntKind.u64.bits)) = z at *
    have h3 : 0 ≤ z.tmod m := Int.tmod_nonneg _ h1
    have h4 : z.tmod m < m := Int.tmod_lt_of_pos _ (by omega)
    rw [wrap_i64 (by omega) (by omega)]
    exact ⟨h3, fun _ => h4, fun _ => by omega⟩
theorem nS_ok {s : Src} (hs : okS s) (m : Int) : okS (nS s m) := by
  unfold nS
  obtain ⟨h1, h2, h3, h4⟩ := hs
  split
  · exact ⟨h1, h2, h3, h4⟩
  · exact ⟨by simp only; split <;> omega, h2, h3, h4⟩
@[simp] theorem lim_str (n : Nat) (l : List Str) : limL n (l.map V.str) = true := by simp [limL_all, V.lim]
@[simp] theorem lim_bV (n : Nat) (l : List Int) : limL n (l.map bV) = true := by simp [limL_all, V.lim]
@[simp] theorem mapL_bV (g : Nat → Option Nat) (l : List Int) : mapL g (l.map bV) = l.map bV := by rw [mapL_map, List.map_map]; rfl
def pickV (l : List Str) (s : Src) : Str := atL l (nV s l.length).toNat
theorem pick_mem {l : List Str} (s : Src) (h0 : 0 < l.length) (h1 : l.length < 9223372036854775808) : pickV l s ∈ l := by
  unfold pickV
  obtain ⟨a, b, c⟩ := nV_r s (m := l.length) (by omega)
  have h : (nV s l.length).toNat < l.length := by
    by_cases h2 : (1 : Int) < l.length
    · have := b h2; omega
    · have := c (by omega); omega
  rw [atL_lt h]; exact List.getElem_mem h
theorem pick_le {l : List Str} (s : Src) {n : Nat} (h0 : 0 < l.length) (h1 : l.length < 9223372036854775808) (h : ∀ x ∈ l, x.length ≤ n) : (pickV l s).length ≤ n := h _ (pick_mem s h0 h1)
def edgeL : List Int := [0, 1, -1, 2, 1000, 1001, 2147483648, 2147483647, -2147483648, 4611686018427387904, 9223372036854775807, -9223372036854775808, 1000000, 1000001]
theorem edge_at {k : Nat} (h : k < 14) : ([V.int .i64 0, V.int .i64 1, V.int .i64 (-1), V.int .i64 2, V.int .i64 1000, V.int .i64 1001, V.int .i64 2147483648, V.int .i64 2147483647, V.int .i64 (-2147483648), V.int .i64 4611686018427387904, V.int .i64 9223372036854775807, V.int .i64 (-9223372036854775808), V.int .i64 1000000, V.int .i64 1000001] : List V)[k]? = some (.int .i64 (atL edgeL k)) := by
  match k, h with
  | 0, _ => rfl
  | 1, _ => rfl
  | 2, _ => rfl
  | 3, _ => rfl
  | 4, _ => rfl
  | 5, _ => rfl
  | 6, _ => rfl
  | 7, _ => rfl
  | 8, _ => rfl
  | 9, _ => rfl
  | 10, _ => rfl
  | 11, _ => rfl
  | 12, _ => rfl
  | 13, _ => rfl
theorem edge_at' {k : Nat} (h : k < 14) : ([V.int .i64 0, V.int .i64 1, V.int .i64 (-1), V.int .i64 2, V.int .i64 1000, V.int .i64 1001, V.int .i64 2147483648, V.int .i64 2147483647, V.int .i64 (-2147483648), V.int .i64 4611686018427387904, V.int .i64 9223372036854775807, V.int .i64 (-9223372036854775808), V.int .i64 1000000, V.int .i64 1000001] : List V)[k]'h = .int .i64 (atL edgeL k) := by
  match k, h with
  | 0, _ => rfl
  | 1, _ => rfl
  | 2, _ => rfl
  | 3, _ => rfl
  | 4, _ => rfl
  | 5, _ => rfl
  | 6, _ => rfl
  | 7, _ => rfl
  | 8, _ => rfl
  | 9, _ => rfl
  | 10, _ => rfl
  | 11, _ => rfl
  | 12, _ => rfl
  | 13, _ => rfl
def wA : List Str := [[], [49, 97], [97, 32, 98], [97, 98, 99, 100, 101, 102, 103, 104, 105, 106, 107, 108, 109, 110, 111, 112, 113, 114, 115, 116], [97, 98, 99, 100, 101, 102, 103, 104, 105, 106, 107, 108, 109, 110, 111, 112, 113, 114, 115, 116, 117], [10], [255]]
def wB : List Str := [[65], [66], [79, 98, 106, 101, 99, 116], [120, 36, 49], [114, 117, 110], [102], [109, 97, 105, 110]]
def wordV (s : Src) : Str := if nV s 30 = 0 then pickV wA (nS s 30) else pickV wB (nS s 30)
def wordS (s : Src) : Src := nS (nS s 30) 7
theorem wordS_ok {s : Src} (hs : okS s) : okS (wordS s) := nS_ok (nS_ok hs _) _
theorem word_le (s : Src) : (wordV s).length ≤ 21 := by
  unfold wordV; split
  · exact pick_le _ (by decide) (by decide) (by decide)
  · exact pick_le _ (by decide) (by decide) (by decide)
end Go.Proofs
namespace Go.Proofs
open Go Go.Ev

/-! names, types and descs, as texts -/
def nameByte (c : UInt8) (first : Bool) : Bool :=
  decide (97 ≤ c.toNat ∧ c.toNat ≤ 122 ∨ 65 ≤ c.toNat ∧ c.toNat ≤ 90 ∨ c.toNat = 36 ∨ (first = false ∧ 48 ≤ c.toNat ∧ c.toNat ≤ 57))
/-- from a place on: all bytes may stand there -/
def nameFrom (first : Bool) : Str → Bool
  | [] => true
  | c :: l => nameByte c first && nameFrom false l
def nameRight (t : Str) : Bool := decide (1 ≤ t.length ∧ t.length ≤ 20) && nameFrom true t
/-- how many bytes of a name stand ahead, at most n -/
def nameRun : Nat → Bool → Str → Nat
  | n + 1, first, c :: l => if nameByte c first then nameRun n false l + 1 else 0
  | _, _, _ => 0
/-- does a byte stand at a place? -/
def isAt (t : Str) (p n : Nat) : Bool := match t[p]? with | some c => decide (c.toNat = n) | none => false
theorem isAt_lt {t : Str} {p n : Nat} (h : p < t.length) : isAt t p n = decide ((t[p].toNat : Int) = (n : Int)) := by
  simp only [isAt, List.getElem?_eq_getElem h]
  simp only [decide_eq_decide]
  omega
theorem isAt_ge {t : Str} {p n : Nat} (h : t.length ≤ p) : isAt t p n = false := by
  simp [isAt, List.getElem?_eq_none h]
theorem lt_of_isAt {t : Str} {p n : Nat} (h : isAt t p n = true) : p < t.length := by
  rcases Nat.lt_or_ge p t.length with h' | h'
  · exact h'
  · rw [isAt_ge h'] at h; cases h
/-- the name behind an L: the place behind its ;, or the first wrong one -/
def nmP (t : Str) (fro : Nat) : Nat × Bool :=
  let i := fro + nameRun 20 true (t.drop fro)
  if isAt t i 59 && !decide (i = fro) then (i + 1, true) else (i, false)
/-- a type that is no list -/
def tyP1 (t : Str) (p : Nat) : Nat × Bool :=
  if isAt t p 73 then (p + 1, true) else if isAt t p 76 then nmP t (p + 1) else (p, false)
def tyP (t : Str) (p : Nat) : Nat × Bool :=
  if isAt t p 91 then tyP1 t (p + 1) else tyP1 t p
def typeRight (t : Str) : Bool := decide (t.length ≤ 20000) && (tyP t 0).2 && decide ((tyP t 0).1 = t.length)
theorem u8_eq {c : UInt8} {n : Nat} (h : n < 256) : (c.toNat = n) ↔ c = UInt8.ofNat n := by
  rw [← UInt8.toNat_inj]; simp; omega
theorem getElem?_eq_lt {t : Str} {i : Nat} (h : i < t.length) : t[i]? = some t[i] := List.getElem?_eq_getElem h
theorem drop_nameRun {t : Str} {i fro : Nat} (hi : i < t.length) (hn : i - fro < 20) (hf : fro ≤ i) :
    nameRun (20 - (i - fro)) (decide (i = fro)) (t.drop i) = if nameByte t[i] (decide (i = fro)) then nameRun (20 - (i + 1 - fro)) (decide (i + 1 = fro)) (t.drop (i + 1)) + 1 else 0 := by
  rw [List.drop_eq_getElem_cons hi, show 20 - (i - fro) = (20 - (i + 1 - fro)) + 1 from by omega, show decide (i + 1 = fro) = false from by simp; omega]
  rfl
theorem nameRun_le : ∀ (n : Nat) (f : Bool) (l : Str), nameRun n f l ≤ l.length ∧ nameRun n f l ≤ n
  | 0, _, _ => by simp [nameRun]
  | n + 1, _, [] => by simp [nameRun]
  | n + 1, f, c :: l => by
    have := nameRun_le n false l
    simp only [nameRun]
    split <;> simp <;> omega
theorem nmP_le {t : Str} {p : Nat} (h : p ≤ t.length) : p ≤ (nmP t p).1 ∧ (nmP t p).1 ≤ t.length ∧ ((nmP t p).2 = true → p < (nmP t p).1) ∧ (nmP t p).1 ≤ p + 21 := by
  have := nameRun_le 20 true (t.drop p)
  rw [List.length_drop] at this
  simp only [nmP]
  split
  · rename_i h'
    simp only [Bool.and_eq_true] at h'
    have := lt_of_isAt h'.1
    simp; omega
  · simp; omega
theorem tyP1_le {t : Str} {p : Nat} (h : p ≤ t.length) : p ≤ (tyP1 t p).1 ∧ (tyP1 t p).1 ≤ t.length ∧ ((tyP1 t p).2 = true → p < (tyP1 t p).1) ∧ (tyP1 t p).1 ≤ p + 22 := by
  simp only [tyP1]
  split
  · rename_i h'; have := lt_of_isAt h'; simp; omega
  · split
    · rename_i h'; have := lt_of_isAt h'; have := nmP_le (t := t) (p := p + 1) (by omega); omega
    · simp; omega
theorem tyP_le {t : Str} {p : Nat} (h : p ≤ t.length) : p ≤ (tyP t p).1 ∧ (tyP t p).1 ≤ t.length ∧ ((tyP t p).2 = true → p < (tyP t p).1) ∧ (tyP t p).1 ≤ p + 23 := by
  simp only [tyP]
  split
  · rename_i h'
    have h1 := lt_of_isAt h'
    have h2 := tyP1_le (t := t) (p := p + 1) (by omega)
    exact ⟨by omega, by omega, fun h => by have := h2.2.2.1 h; omega, by omega⟩
  · have h2 := tyP1_le (t := t) (p := p) h
    exact ⟨h2.1, h2.2.1, h2.2.2.1, by omega⟩

def seg (t : Str) (p e : Nat) : Str := (t.take e).drop p
/-- the params from a place on: what they are, and the place of the closing bracket; or the first wrong place -/
def dParams (t : Str) : Nat → Nat → List Str → Except Nat (List Str × Nat)
  | 0, p, ps => if isAt t p 41 then .ok (ps, p) else .error p
  | n + 1, p, ps => if isAt t p 41 then .ok (ps, p) else if (tyP t p).2 then dParams t n (tyP t p).1 (ps ++ [seg t p (tyP t p).1]) else .error (tyP t p).1
structure DO where
  params : List Str
  res : Str
  place : Int
  code : Int
  deriving DecidableEq, Inhabited
def eDO (x : DO) : V := .agg [.lst true 1 (x.params.map V.str), .str x.res, .int .i64 x.place, .int .i64 x.code]
attribute [simp] eDO
def dErr (p : Nat) : DO := ⟨[], [], p, 3⟩
/-- behind the closing bracket -/
def dTail (t : Str) (ps : List Str) (p : Nat) : DO :=
  if isAt t (p + 1) 86 then (if p + 2 < t.length then dErr (p + 2) else ⟨ps, [86], 0, 0⟩)
  else if (tyP t (p + 1)).2 then (if (tyP t (p + 1)).1 < t.length then dErr (tyP t (p + 1)).1 else ⟨ps, seg t (p + 1) (tyP t (p + 1)).1, 0, 0⟩)
  else dErr (tyP t (p + 1)).1
/-- a desc is read, whatever its length -/
def dRead (t : Str) : DO :=
  if isAt t 0 40 then (match dParams t 8 1 [] with | .error p => dErr p | .ok (ps, p) => dTail t ps p) else dErr 0
def descRead (t : Str) : DO := if 20000 < t.length then ⟨[], [], 0, 2⟩ else dRead t
theorem dRead_err {t : Str} {p : Nat} (h0 : isAt t 0 40 = true) (h : dParams t 8 1 [] = .error p) : dRead t = dErr p := by simp [dRead, h0, h]
theorem dRead_ok {t : Str} {p : Nat} {ps : List Str} (h0 : isAt t 0 40 = true) (h : dParams t 8 1 [] = .ok (ps, p)) : dRead t = dTail t ps p := by simp [dRead, h0, h]
theorem dParams_le {t : Str} : ∀ {n p : Nat} {ps qs : List Str} {q : Nat}, dParams t n p ps = .ok (qs, q) → qs.length ≤ ps.length + n ∧ isAt t q 41 = true
  | 0, p, ps, qs, q, h => by
    simp only [dParams] at h
    split at h
    · rename_i h'; cases h; exact ⟨by omega, h'⟩
    · cases h
  | n + 1, p, ps, qs, q, h => by
    simp only [dParams] at h
    split at h
    · rename_i h'; cases h; exact ⟨by omega, h'⟩
    · split at h
      · have := dParams_le h
        simp at this
        exact ⟨by omega, this.2⟩
      · cases h
theorem descRead_le (t : Str) : (descRead t).params.length ≤ 8 := by
  unfold descRead
  split
  · simp
  · unfold dRead
    split
    · split
      · simp [dErr]
      · rename_i ps p h
        have := dParams_le h
        unfold dTail
        split
        · split <;> simp [dErr]; simpa using this.1
        · split
          · split <;> simp [dErr]; simpa using this.1
          · simp [dErr]
    · simp [dErr]
theorem dParams_parts {t : Str} : ∀ {n p : Nat} {ps qs : List Str} {q : Nat}, dParams t n p ps = .ok (qs, q) → (∀ s ∈ ps, s.length ≤ t.length) → ∀ s ∈ qs, s.length ≤ t.length
  | 0, p, ps, qs, q, h, hs => by
    simp only [dParams] at h
    split at h
    · cases h; exact hs
    · cases h
  | n + 1, p, ps, qs, q, h, hs => by
    simp only [dParams] at h
    split at h
    · cases h; exact hs
    · split at h
      · refine dParams_parts h fun s hm => ?_
        rcases List.mem_append.1 hm with hm | hm
        · exact hs s hm
        · simp at hm; subst hm; simp [seg]; omega
      · cases h
theorem descRead_parts (t : Str) : (descRead t).res.length ≤ t.length ∧ ∀ s ∈ (descRead t).params, s.length ≤ t.length := by
  unfold descRead
  split
  · simp
  · unfold dRead
    split
    · rename_i h0
      have hlt := lt_of_isAt h0
      split
      · simp [dErr]
      · rename_i ps p h
        have hp := dParams_parts h (by simp)
        unfold dTail
        split
        · split
          · simp [dErr]
          · exact ⟨by simp; omega, hp⟩
        · split
          · split
            · simp [dErr]
            · exact ⟨by simp [seg]; omega, hp⟩
          · simp [dErr]
    · simp [dErr]
theorem wk_err (r : Str) (p c : Int) : Wk (.agg [.raw (.slice none 0 0), .str r, .int .i64 p, .int .i64 c]) (eDO ⟨[], r, p, c⟩) :=
  Wk.agg (.cons (Wk.nilSlice _ _) (.cons (Wk.refl _) (.cons (Wk.refl _) (.cons (Wk.refl _) .nil))))
end Go.Proofs
namespace Go.Proofs
open Go Go.Ev

/-! splitting; the ops -/
def splitL (c : UInt8) : Str → List Str
  | [] => [[]]
  | x :: t => if x = c then [] :: splitL c t else (match splitL c t with | h :: r => (x :: h) :: r | [] => [[x]])
theorem splitL_ne (c : UInt8) (t : Str) : splitL c t ≠ [] := by
  cases t with
  | nil => simp [splitL]
  | cons x t => simp only [splitL]; split; simp; split <;> simp
theorem splitL_no {c : UInt8} : ∀ {l : Str}, (∀ x ∈ l, x ≠ c) → splitL c l = [l]
  | [], _ => rfl
  | x :: l, h => by
    have h2 : splitL c l = [l] := splitL_no (fun y hy => h y (List.mem_cons_of_mem _ hy))
    simp only [splitL, if_neg (h x (by simp)), h2]
theorem splitL_hit {c : UInt8} : ∀ {l : Str} {k : Nat} (hk : k < l.length), (∀ x ∈ l.take k, x ≠ c) → l[k] = c → splitL c l = l.take k :: splitL c (l.drop (k + 1))
  | [], k, hk, _, _ => by simp at hk
  | x :: l, 0, _, _, h => by simp only [List.getElem_cons_zero] at h; simp [splitL, h]
  | x :: l, k + 1, hk, hn, h => by
    have := splitL_hit (c := c) (l := l) (k := k) (by simpa using hk) (fun y hy => hn y (by rw [List.take_succ_cons]; exact List.mem_cons_of_mem _ hy)) (by simpa using h)
    simp only [splitL, if_neg (hn x (by simp)), this, List.take_succ_cons, List.drop_succ_cons]

def opsL : List Str := [[], [99, 111, 110, 115, 116, 32, 110], [110, 117, 108, 108], [108, 111, 97, 100, 32, 105], [115, 116, 111, 114, 101, 32, 105], [112, 111, 112], [100, 117, 112], [115, 119, 97, 112], [97, 100, 100], [115, 117, 98], [109, 117, 108], [100, 105, 118], [114, 101, 109], [97, 110, 100], [111, 114], [120, 111, 114], [115, 104, 108], [115, 104, 114], [117, 115, 104, 114], [103, 111, 116, 111, 32, 116], [105, 102, 101, 113, 32, 116], [105, 102, 108, 116, 32, 116], [105, 102, 115, 97, 109, 101, 32, 116], [105, 102, 108, 101, 115, 115, 32, 116], [105, 102, 110, 117, 108, 108, 32, 116], [105, 102, 105, 115, 32, 116], [114, 101, 116, 117, 114, 110], [105, 114, 101, 116, 117, 114, 110], [97, 114, 101, 116, 117, 114, 110], [116, 104, 114, 111, 119], [100, 117, 112, 50], [110, 101, 119, 32, 99], [103, 101, 116, 102, 105, 101, 108, 100, 32, 102], [112, 117, 116, 102, 105, 101, 108, 100, 32, 102], [103, 101, 116, 115, 116, 97, 116, 105, 99, 32, 102], [112, 117, 116, 115, 116, 97, 116, 105, 99, 32, 102], [99, 97, 108, 108, 32, 109], [99, 97, 108, 108, 115, 116, 97, 116, 105, 99, 32, 109], [99, 97, 108, 108, 115, 112, 101, 99, 105, 97, 108, 32, 109], [99, 97, 115, 116, 32, 99], [105, 115, 111, 102, 32, 99], [110, 101, 119, 108, 105, 115, 116, 32, 121], [103, 101, 116], [112, 117, 116], [115, 105, 122, 101]]
def formL : List Str := [[110], [], [105], [105], [], [], [], [], [], [], [], [], [], [], [], [], [], [], [116], [116], [116], [116], [116], [116], [116], [], [], [], [], [], [99], [102], [102], [102], [102], [109], [109], [109], [99], [99], [121], [], [], []]
def opForm (op : Int) : Str := if op < 1 ∨ 44 < op then [33] else formL.getD (op - 1).toNat []
def formOf (w : List Str) : Str := if w.length = 2 then w.getD 1 [] else []
theorem formOf_ops : ∀ i : Fin 45, i.val ≠ 0 → formOf (splitL 32 (opsL.getD i.val [])) = formL.getD (i.val - 1) [] := by decide
theorem ops_short : ∀ i : Fin 45, (opsL[i.val]'(i.isLt)).length ≤ 20 := by decide
def insEmpty (x : Ins) : Bool := decide (x.cls = [] ∧ x.name = [] ∧ x.desc = [])
def isInt (n : Int) : Bool := decide (-2147483648 ≤ n ∧ n ≤ 2147483647)
def init : Str := [60, 105, 110, 105, 116, 62]
def insRight (x : Ins) : Bool :=
  let f := opForm x.op
  if f = [] then decide (x.a = 0) && insEmpty x
  else if f = [110] then isInt x.a && insEmpty x
  else if f = [105] then decide (0 ≤ x.a ∧ x.a < 16) && insEmpty x
  else if f = [116] then decide (0 ≤ x.a ∧ x.a < 60) && insEmpty x
  else if f = [99] then decide (x.a = 0) && nameRight x.cls && decide (x.name = [] ∧ x.desc = [])
  else if f = [121] then decide (x.a = 0 ∧ x.cls = [] ∧ x.name = []) && typeRight x.desc && !isAt x.desc 0 91
  else if f = [102] then decide (x.a = 0) && nameRight x.cls && nameRight x.name && typeRight x.desc
  else if f = [109] then decide (x.a = 0) && nameRight x.cls && (nameRight x.name || decide (x.name = init)) && decide ((descRead x.desc).code = 0)
  else false
def hdlRight (many : Int) (x : Hdl) : Bool := decide (0 ≤ x.frm ∧ x.frm < x.upto ∧ x.upto ≤ many ∧ 0 ≤ x.at' ∧ x.at' < many) && nameRight x.cls
/-- an instruction of a method of so many -/
def codeOK (many : Int) (x : Ins) : Bool := insRight x && !(decide (opForm x.op = [116]) && decide (x.a ≥ many))
def needs (x : Mth) : Nat := (descRead x.desc).params.length + if x.static then 0 else 1
def mthHead (x : Mth) : Bool := (nameRight x.name || decide (x.name = init)) && decide ((descRead x.desc).code = 0) && decide (0 ≤ x.stack ∧ x.stack ≤ 16 ∧ 0 ≤ x.locals ∧ x.locals ≤ 16)
def mthRight (x : Mth) : Bool :=
  if mthHead x then
    if x.abstr then decide (x.stack = 0 ∧ x.locals = 0 ∧ x.code.length = 0 ∧ x.hdls.length = 0) && !x.static && !x.final && !decide (x.name = init)
    else if x.code.length < 1 ∨ 60 < x.code.length ∨ x.locals < needs x ∨ 6 < x.hdls.length then false
    else x.code.all (codeOK x.code.length) && (x.hdls.all (hdlRight x.code.length) && (!decide (x.name = init) || (!x.static && !x.final && decide ((descRead x.desc).res = [86]))))
  else false
theorem mthRight_no {x : Mth} (h : mthHead x = false) : mthRight x = false := by simp [mthRight, h]
theorem mthRight_abs {x : Mth} (h : mthHead x = true) (h2 : x.abstr = true) : mthRight x = (decide (x.stack = 0 ∧ x.locals = 0 ∧ x.code.length = 0 ∧ x.hdls.length = 0) && !x.static && !x.final && !decide (x.name = init)) := by simp only [mthRight, h, h2, if_true]
theorem mthRight_out {x : Mth} (h2 : x.abstr = false) (h3 : x.code.length < 1 ∨ 60 < x.code.length ∨ x.locals < needs x ∨ 6 < x.hdls.length) : mthRight x = false := by
  simp only [mthRight, h2, Bool.false_eq_true, if_false, if_pos h3, ite_self]
theorem mthRight_in {x : Mth} (h : mthHead x = true) (h2 : x.abstr = false) (h3 : ¬ (x.code.length < 1 ∨ 60 < x.code.length ∨ x.locals < needs x ∨ 6 < x.hdls.length)) :
    mthRight x = (x.code.all (codeOK x.code.length) && (x.hdls.all (hdlRight x.code.length) && (!decide (x.name = init) || (!x.static && !x.final && decide ((descRead x.desc).res = [86]))))) := by
  simp only [mthRight, h, h2, Bool.false_eq_true, if_true, if_false, if_neg h3]
theorem all_drop {α : Type} {p : α → Bool} {l : List α} {i : Nat} (h : i < l.length) : (l.drop i).all p = (p l[i] && (l.drop (i + 1)).all p) := by
  rw [List.drop_eq_getElem_cons h]; rfl
theorem len_of_typeRight {t : Str} (h : typeRight t = true) : 0 < t.length ∧ t.length ≤ 23 := by
  simp only [typeRight, Bool.and_eq_true, decide_eq_true_eq] at h
  have h1 := tyP_le (t := t) (p := 0) (Nat.zero_le _)
  have h2 := h1.2.2.1 h.1.2
  omega
def clsHead (x : Cls) : Bool := nameRight x.name && nameRight x.super && !decide (x.name = x.super) && !(x.final && x.abstr) && decide (x.fields.length ≤ 8 ∧ x.methods.length ≤ 10)
def fldsR (pre : List Fld) : List Fld → Bool
  | [] => true
  | f :: l => nameRight f.name && typeRight f.type && pre.all (fun g => !decide (g.name = f.name)) && fldsR (pre ++ [f]) l
def mthsR (abstr : Bool) (pre : List Mth) : List Mth → Bool
  | [] => true
  | f :: l => mthRight f && !(f.abstr && !abstr) && pre.all (fun g => !(decide (g.name = f.name) && decide (g.desc = f.desc))) && mthsR abstr (pre ++ [f]) l
def clsRight (x : Cls) : Bool := clsHead x && (fldsR [] x.fields && mthsR x.abstr [] x.methods)
end Go.Proofs
namespace Go.Proofs
open Go Go.Ev
theorem ext_IB : ExtIB Tryz.prog 281 := ⟨_, Tryz.func281, by kernel_rfl, by kernel_rfl, by kernel_rfl, by kernel_rfl⟩
def nameTable : Str := [48, 49, 50, 51, 52, 53, 54, 55, 56, 57, 97, 98, 99, 100, 101, 102, 103, 104, 105, 106, 107, 108, 109, 110, 111, 112, 113, 114, 115, 116, 117, 118, 119, 120, 121, 122, 65, 66, 67, 68, 69, 70, 71, 72, 73, 74, 75, 76, 77, 78, 79, 80, 81, 82, 83, 84, 85, 86, 87, 88, 89, 90, 36]
theorem nameTable_ok : ∀ n : Fin 256, (decide (10 ≤ ixL (UInt8.ofNat n.val) nameTable) = nameByte (UInt8.ofNat n.val) true) ∧ (decide (0 ≤ ixL (UInt8.ofNat n.val) nameTable) = nameByte (UInt8.ofNat n.val) false) := by decide +kernel
theorem nameTable_byte (c : UInt8) : (decide (10 ≤ ixL c nameTable) = nameByte c true) ∧ (decide (0 ≤ ixL c nameTable) = nameByte c false) := by
  have := nameTable_ok ⟨c.toNat, c.toNat_lt⟩
  simpa using this
theorem ops_forms : ∀ i : Fin 44, formL.length = 44 ∧ i.val < 44 := fun i => ⟨rfl, i.isLt⟩
end Go.Proofs
namespace Go.Proofs
open Go Go.Ev
abbrev rdr (t : Str) (p : Nat) (b : Bool) : Ob := some (3, [.agg [.str t, .int .i64 p, .bool b]])
/-- does the byte stand here, and has nothing been wrong? -/
def hit (t : Str) (p : Nat) (b : Bool) (n : Nat) : Bool := !b && isAt t p n
def adv (h : Bool) (p : Nat) : Nat := bif h then p + 1 else p
@[simp] theorem adv_true {p : Nat} : adv true p = p + 1 := rfl
@[simp] theorem adv_false {p : Nat} : adv false p = p := rfl
theorem adv_le {t : Str} {p n : Nat} : p ≤ adv (isAt t p n) p ∧ (p ≤ t.length → adv (isAt t p n) p ≤ t.length) := by
  cases h : isAt t p n
  · exact ⟨Nat.le_refl _, fun h => h⟩
  · have := lt_of_isAt h; simp; omega
theorem hit_lt {t : Str} {p : Nat} {b : Bool} {n : Nat} (h : hit t p b n = true) : p < t.length := by
  simp only [hit, Bool.and_eq_true] at h; exact lt_of_isAt h.2
theorem hit_b {t : Str} {p : Nat} {b : Bool} {n : Nat} (h : hit t p b n = true) : b = false := by
  simp only [hit, Bool.and_eq_true] at h; simpa using h.1
@[simp] theorem hit_true {t : Str} {p n : Nat} : hit t p true n = false := rfl
@[simp] theorem hit_false {t : Str} {p n : Nat} : hit t p false n = isAt t p n := rfl
theorem plainType (t : Str) : (typeRight t && !isAt t 0 91) = (decide (t = [73]) || (typeRight t && isAt t 0 76)) := by
  by_cases h : typeRight t = true
  · have hl := (len_of_typeRight h).1
    cases t with
    | nil => simp at hl
    | cons c l =>
      simp only [typeRight, tyP, tyP1, Bool.and_eq_true, decide_eq_true_eq] at h
      by_cases h91 : isAt (c :: l) 0 91 = true
      · have : isAt (c :: l) 0 76 = false := by simp only [isAt, List.getElem?_cons_zero] at h91 ⊢; simp at h91 ⊢; omega
        have h2 : c ≠ 73 := by intro e; subst e; simp [isAt] at h91
        simp [h91, this, h2]
      · have h91 : isAt (c :: l) 0 91 = false := by simpa using h91
        simp only [h91, Bool.false_eq_true, if_false] at h
        by_cases h73 : isAt (c :: l) 0 73 = true
        · simp only [h73, if_true] at h
          have hc : c = 73 := by simp only [isAt, List.getElem?_cons_zero] at h73; simp at h73; exact (u8_eq (by decide)).1 h73
          have hl2 : l = [] := by have := h.2; simp at this; exact this
          subst hc; subst hl2
          simp [isAt]
          decide
        · have h73 : isAt (c :: l) 0 73 = false := by simpa using h73
          simp only [h73, Bool.false_eq_true, if_false] at h
          have hc : c ≠ 73 := by intro e; subst e; simp [isAt] at h73
          by_cases h76 : isAt (c :: l) 0 76 = true
          · simp [h91, h76, hc]
          · simp [h76] at h
  · have h2 : t ≠ [73] := by intro e; subst e; exact h (by decide)
    simp [h, h2]
end Go.Proofs
namespace Go.Proofs
open Go Go.Ev
/-- a list of which the first i are written -/
def fillL {α : Type} (f : α → V) (d : V) (l : List α) (i : Nat) : List V := (l.take i).map f ++ List.replicate (l.length - i) d
theorem fillL_length {α : Type} {f : α → V} {d : V} {l : List α} {i : Nat} : (fillL f d l i).length = l.length := by
  simp [fillL]; omega
theorem fillL_zero {α : Type} {f : α → V} {d : V} {l : List α} : fillL f d l 0 = List.replicate l.length d := by simp [fillL]
theorem fillL_full {α : Type} {f : α → V} {d : V} {l : List α} : fillL f d l l.length = l.map f := by simp [fillL]
theorem fillL_get {α : Type} {f : α → V} {d : V} {l : List α} {i : Nat} (h : i < l.length) : (fillL f d l i)[i]? = some d := by
  simp only [fillL]
  rw [List.getElem?_append_right (by simp; omega)]
  simp [List.getElem?_replicate]
  omega
theorem fillL_at {α : Type} {f : α → V} {d : V} {l : List α} {i : Nat} {h' : i < (fillL f d l i).length} (h : i < l.length) : (fillL f d l i)[i]'h' = d := by
  have := fillL_get (f := f) (d := d) h
  rw [List.getElem?_eq_getElem h'] at this
  exact Option.some.inj this
theorem fillL_set {α : Type} {f : α → V} {d : V} {l : List α} {i : Nat} (h : i < l.length) : (fillL f d l i).set i (f l[i]) = fillL f d l (i + 1) := by
  simp only [fillL]
  rw [List.set_append_right _ _ (by simp; omega)]
  have e1 : l.length - i = (l.length - (i + 1)) + 1 := by omega
  have e2 : i - ((l.take i).map f).length = 0 := by simp; omega
  rw [e1, List.replicate_succ, e2, List.set_cons_zero, List.take_succ_eq_append_getElem h, List.map_append, List.append_assoc]
  rfl
theorem pureL_fillL {α : Type} {f : α → V} {d : V} (hf : ∀ x, (f x).pure = true) (hd : d.pure = true) {l : List α} {i : Nat} : pureL (fillL f d l i) = true := by
  simp only [fillL, pureL_append, pureL_all, Bool.and_eq_true, List.all_eq_true, List.mem_map, List.mem_replicate]
  intro x hx
  rcases List.mem_append.1 hx with hx | hx
  · obtain ⟨y, _, rfl⟩ := List.mem_map.1 hx; exact hf y
  · rw [(List.mem_replicate.1 hx).2]; exact hd
theorem mem_sum {α : Type} {f : α → Nat} {l : List α} {y : α} (h : y ∈ l) : f y ≤ (l.map f).sum := by
  induction l with
  | nil => simp at h
  | cons x l ih =>
    simp only [List.map_cons, List.sum_cons]
    rcases List.mem_cons.1 h with rfl | h
    · omega
    · have := ih h; omega

/-- what is left of a room -/
def sub (z : Int) (n : Nat) : Int := if z - n < 0 then -1 else z - n
def sizeF (x : Fld) : Nat := x.name.length + x.type.length
def bigF (x : Fld) : Prop := x.name.length < 4611686018427387904 ∧ x.type.length < 4611686018427387904
def sizeI (x : Ins) : Nat := x.cls.length + x.name.length + x.desc.length
def bigI (x : Ins) : Prop := x.cls.length < 4611686018427387904 ∧ x.name.length < 4611686018427387904 ∧ x.desc.length < 4611686018427387904
def sizeH (x : Hdl) : Nat := x.cls.length
def bigH (x : Hdl) : Prop := x.cls.length < 4611686018427387904
def sizeM (x : Mth) : Nat := x.name.length + x.desc.length + (x.code.length + (x.code.map sizeI).sum) + (x.hdls.length + (x.hdls.map sizeH).sum)
def bigM (x : Mth) : Prop := x.name.length < 4611686018427387904 ∧ x.desc.length < 4611686018427387904 ∧ x.code.length < 4611686018427387904 ∧ (∀ y ∈ x.code, bigI y) ∧ x.hdls.length < 4611686018427387904 ∧ (∀ y ∈ x.hdls, bigH y)
def sizeC (x : Cls) : Nat := x.name.length + x.super.length + (x.fields.length + (x.fields.map sizeF).sum) + (x.methods.length + (x.methods.map sizeM).sum)
def bigC (x : Cls) : Prop := x.name.length < 4611686018427387904 ∧ x.super.length < 4611686018427387904 ∧ x.fields.length < 4611686018427387904 ∧ (∀ y ∈ x.fields, bigF y) ∧ x.methods.length < 4611686018427387904 ∧ (∀ y ∈ x.methods, bigM y)
end Go.Proofs
namespace Go.Proofs
open Go Go.Ev
/-- the place of the first one that is so, or -1 -/
def fix {α : Type} (p : α → Bool) : List α → Int
  | [] => -1
  | x :: l => if p x then 0 else if fix p l < 0 then -1 else fix p l + 1
theorem fix_none {α : Type} {p : α → Bool} : ∀ {l : List α}, (∀ x ∈ l, p x = false) → fix p l = -1
  | [], _ => rfl
  | x :: l, h => by
    have := fix_none (l := l) (fun y hy => h y (by simp [hy]))
    simp [fix, h x (by simp), this]
theorem fix_hit {α : Type} {p : α → Bool} : ∀ {l : List α} {i : Nat} (h : i < l.length), (∀ x ∈ l.take i, p x = false) → p l[i] = true → fix p l = i
  | [], _, h, _, _ => by simp at h
  | x :: l, 0, _, _, hp => by simp at hp; simp [fix, hp]
  | x :: l, i + 1, h, hn, hp => by
    have := fix_hit (l := l) (i := i) (by simpa using h) (fun y hy => hn y (by rw [List.take_succ_cons]; simp [hy])) (by simpa using hp)
    have hx := hn x (by rw [List.take_succ_cons]; simp)
    simp [fix, hx, this]
    try omega
theorem fix_lt {α : Type} {p : α → Bool} : ∀ {l : List α}, -1 ≤ fix p l ∧ fix p l < l.length
  | [] => by simp [fix]
  | x :: l => by
    have := fix_lt (p := p) (l := l)
    simp only [fix]
    split
    · simp; try omega
    · split <;> simp <;> omega
theorem fix_ge' {α : Type} {p : α → Bool} : ∀ {l : List α}, 0 ≤ fix p l ↔ l.any p = true
  | [] => by simp [fix]
  | x :: l => by
    have h1 := fix_lt (p := p) (l := l)
    have h2 := fix_ge' (p := p) (l := l)
    simp only [fix, List.any_cons]
    by_cases hx : p x = true
    · simp [hx]
    · rw [if_neg hx, show p x = false from by simpa using hx, Bool.false_or, ← h2]
      split <;> omega
theorem fix_ge {α : Type} {p : α → Bool} {l : List α} : decide (0 ≤ fix p l) = l.any p := by
  rw [Bool.eq_iff_iff, decide_eq_true_eq, fix_ge']
/-- one that is so: is it the first? -/
theorem fix_first {α : Type} {p : α → Bool} {l : List α} {i : Nat} (h : i < l.length) (hp : p l[i] = true) : decide (fix p l = i) = (l.take i).all (fun x => !p x) := by
  by_cases hn : ∀ x ∈ l.take i, p x = false
  · rw [fix_hit h hn hp]
    simp
    intro x hx; exact hn x (by simpa using hx)
  · have h2 : (l.take i).all (fun x => !p x) = false := by
      rw [List.all_eq_false]
      refine Classical.byContradiction fun hc => hn fun x hx => ?_
      cases hpx : p x
      · rfl
      · exact absurd ⟨x, hx, by simp [hpx]⟩ hc
    rw [h2]
    simp only [decide_eq_false_iff_not]
    intro e
    apply hn
    clear h2 hn
    induction l generalizing i with
    | nil => simp
    | cons y l ih =>
      cases i with
      | zero => simp
      | succ i =>
        have h1 := fix_lt (p := p) (l := l)
        simp only [fix] at e
        split at e
        · omega
        · rename_i hy
          split at e
          · omega
          · intro x hx
            rw [List.take_succ_cons] at hx
            rcases List.mem_cons.1 hx with rfl | hx
            · simpa using hy
            · exact ih (i := i) (by simpa using h) (by simpa using hp) (by omega) x hx
theorem take_not {α : Type} {p : α → Bool} {l : List α} {i : Nat} (h : i < l.length) (hn : ∀ x ∈ l.take i, p x = false) (hp : p l[i] = false) : ∀ x ∈ l.take (i + 1), p x = false := by
  intro x hx
  rw [List.take_succ_eq_append_getElem h] at hx
  rcases List.mem_append.1 hx with hx | hx
  · exact hn x hx
  · simp at hx; rw [hx]; exact hp
/-- the slots that the params of a desc need -/
def dSlots (t : Str) : Int := if (descRead t).code = 0 then (descRead t).params.length else -1
theorem dSlots_le (t : Str) : -1 ≤ dSlots t ∧ dSlots t ≤ 8 := by
  have := descRead_le t
  unfold dSlots; split <;> omega
end Go.Proofs
namespace Go.Proofs
open Go Go.Ev
def codeR (x : Mth) : Bool := !(decide (x.code.length < 1 ∨ 60 < x.code.length ∨ 6 < x.hdls.length)) && (x.code.all (codeOK x.code.length) && x.hdls.all (hdlRight x.code.length))
theorem dRead_of {t : Str} (h : (descRead t).code = 0) : dRead t = descRead t := by
  unfold descRead at h ⊢
  split
  · rename_i h1; rw [if_pos h1] at h; simp at h
  · rfl
theorem head_code {x : Mth} (h : mthHead x = true) : (descRead x.desc).code = 0 := by
  simp only [mthHead, Bool.and_eq_true, decide_eq_true_eq] at h; exact h.1.2
theorem mthRight_eq {x : Mth} (h : mthHead x = true) (h2 : x.abstr = false) :
    mthRight x = (codeR x && decide ((dSlots x.desc + if x.static = true then 0 else 1) ≤ x.locals) && (!decide (x.name = init) || (!x.static && !x.final && decide ((dRead x.desc).res = [86])))) := by
  have hc := head_code h
  rw [dRead_of hc]
  have hs : ((needs x : Nat) : Int) = dSlots x.desc + if x.static = true then 0 else 1 := by
    unfold needs dSlots; rw [if_pos hc]; split <;> simp
  by_cases h3 : x.code.length < 1 ∨ 60 < x.code.length ∨ x.locals < needs x ∨ 6 < x.hdls.length
  · rw [mthRight_out h2 h3]
    rw [← hs]
    by_cases h4 : x.locals < needs x
    · rw [decide_eq_false (show ¬ ((needs x : Nat) : Int) ≤ x.locals by omega)]; simp
    · have : x.code.length < 1 ∨ 60 < x.code.length ∨ 6 < x.hdls.length := by omega
      unfold codeR
      rw [decide_eq_true this]; simp
  · rw [mthRight_in h h2 h3, ← hs, decide_eq_true (show ((needs x : Nat) : Int) ≤ x.locals by omega)]
    unfold codeR
    rw [decide_eq_false (show ¬ (x.code.length < 1 ∨ 60 < x.code.length ∨ 6 < x.hdls.length) by omega)]
    simp [Bool.and_assoc]
end Go.Proofs
namespace Go.Proofs
open Go Go.Ev
def builtIn : List Str := [[79, 98, 106, 101, 99, 116], [69, 114, 114, 111, 114], [78, 117, 108, 108, 69, 114, 114, 111, 114], [82, 97, 110, 103, 101, 69, 114, 114, 111, 114], [67, 97, 115, 116, 69, 114, 114, 111, 114], [77, 97, 116, 104, 69, 114, 114, 111, 114], [70, 117, 108, 108, 69, 114, 114, 111, 114], [68, 101, 101, 112, 69, 114, 114, 111, 114]]
theorem builtIn_length : builtIn.length = 8 := rfl
def ixFrom (n : Str) : List Str → Nat → Int
  | [], _ => -1
  | c :: cs, i => if c = n then i else ixFrom n cs (i + 1)
def builtIx (n : Str) : Int := ixFrom n builtIn 0
def findFrom (n : Str) : List Cls → Nat → Int
  | [], _ => -1
  | c :: cs, i => if c.name = n then i else findFrom n cs (i + 1)
end Go.Proofs
namespace Go.Proofs
open Go Go.Ev

def sizeL (l : List Cls) : Nat := l.length + (l.map sizeC).sum
theorem sizeL_at {l : List Cls} {i : Nat} (h : i < l.length) : sizeC l[i] ≤ sizeL l := by
  have := mem_sum (f := sizeC) (List.getElem_mem h)
  unfold sizeL; omega
def isKnown (l : List Cls) (n : Str) : Bool := decide (0 ≤ builtIx n) || decide (0 ≤ findFrom n l 0)
/-- the name in a type -/
def tClass (t : Str) : Str := if isAt t 0 73 then [] else seg t 1 (t.length - 1)
def typeClass (t : Str) : Str := if typeRight t then (if isAt t 0 91 then tClass (t.drop 1) else tClass t) else []
def typeK (l : List Cls) (t : Str) : Bool := decide (typeClass t = []) || isKnown l (typeClass t)
def descK (l : List Cls) (t : Str) : Bool := (descRead t).params.all (typeK l) && typeK l (descRead t).res
def clsK (l : List Cls) (c : Cls) : Bool := c.fields.all (fun f => typeK l f.type) && c.methods.all (fun m => descK l m.desc)
def mthFrom (n d : Str) : List Mth → Nat → Int
  | [], _ => -1
  | m :: ms, i => if m.name = n ∧ m.desc = d then i else mthFrom n d ms (i + 1)
def sObject : Str := [79, 98, 106, 101, 99, 116]
def sError : Str := [69, 114, 114, 111, 114]
def superOf (l : List Cls) (n : Str) : Str :=
  if builtIx n = 0 then [] else if builtIx n = 1 then sObject else if 1 < builtIx n then sError
  else if findFrom n l 0 < 0 then [] else (atL l (findFrom n l 0).toNat).super
theorem typeRight_long {t : Str} (h : typeRight t = true) : (isAt t 0 91 = true → 1 < t.length) ∧ (isAt t 0 91 = true → isAt t 1 73 = false → 3 < t.length) ∧ (isAt t 0 91 = false → isAt t 0 73 = false → 2 < t.length) := by
  simp only [typeRight, Bool.and_eq_true, decide_eq_true_eq] at h
  obtain ⟨⟨h0, h1⟩, h2⟩ := h
  have key : ∀ p, p ≤ t.length → (tyP1 t p).2 = true → p < (tyP1 t p).1 ∧ (isAt t p 73 = false → p + 2 < (tyP1 t p).1) := by
    intro p hp hk
    refine ⟨(tyP1_le hp).2.2.1 hk, fun h3 => ?_⟩
    simp only [tyP1, h3, Bool.false_eq_true, if_false] at hk ⊢
    split at hk
    · rename_i h4
      rw [if_pos h4]
      simp only [nmP] at hk ⊢
      split at hk
      · rename_i h5
        rw [if_pos h5]
        simp at h5
        simp
        omega
      · cases hk
    · cases hk
  by_cases hb : isAt t 0 91 = true
  · have hlt := lt_of_isAt hb
    simp only [tyP, hb, if_true] at h1 h2
    obtain ⟨k1, k2⟩ := key (0 + 1) (by omega) h1
    refine ⟨fun _ => by omega, fun _ h => by have := k2 h; omega, fun h => by rw [hb] at h; cases h⟩
  · simp only [Bool.not_eq_true] at hb
    simp only [tyP, hb, Bool.false_eq_true, if_false] at h1 h2
    obtain ⟨k1, k2⟩ := key 0 (by omega) h1
    refine ⟨fun h => (by rw [hb] at h; cases h), fun h => (by rw [hb] at h; cases h), fun _ h => by have := k2 h; omega⟩
theorem isAt_drop {t : Str} {p n : Nat} : isAt (t.drop 1) p n = isAt t (p + 1) n := by simp [isAt, List.getElem?_drop, Nat.add_comm]
theorem findFrom_spec {n : Str} : ∀ {l : List Cls} {k : Nat}, (findFrom n l k = -1 ∧ ∀ c ∈ l, c.name ≠ n) ∨ ∃ i, ∃ h : i < l.length, findFrom n l k = ((k + i : Nat) : Int) ∧ l[i].name = n ∧ ∀ j (hj : j < i), l[j].name ≠ n
  | [], _ => .inl ⟨rfl, by simp⟩
  | c :: l, k => by
    by_cases hc : c.name = n
    · exact .inr ⟨0, by simp, by simp [findFrom, hc], by simpa using hc, fun j hj => absurd hj (by omega)⟩
    · rcases @findFrom_spec n l (k + 1) with ⟨h1, h2⟩ | ⟨i, hi, h1, h2, h3⟩
      · refine .inl ⟨by simp [findFrom, hc, h1], fun x hx => ?_⟩
        rcases List.mem_cons.1 hx with rfl | hx
        · exact hc
        · exact h2 x hx
      · refine .inr ⟨i + 1, by simpa using hi, by simp [findFrom, hc, h1]; omega, by simpa using h2, fun j hj => ?_⟩
        cases j with
        | zero => simpa using hc
        | succ j => simpa using h3 j (by omega)
theorem findFrom_lt {n : Str} {l : List Cls} (h : 0 ≤ findFrom n l 0) : (findFrom n l 0).toNat < l.length := by
  rcases @findFrom_spec n l 0 with ⟨h1, _⟩ | ⟨i, hi, h1, _⟩
  · omega
  · omega
theorem findFrom_ge {n : Str} {l : List Cls} : -1 ≤ findFrom n l 0 ∧ findFrom n l 0 < l.length := by
  rcases @findFrom_spec n l 0 with ⟨h1, _⟩ | ⟨i, hi, h1, _⟩ <;> omega
theorem mthFrom_spec {n d : Str} : ∀ {l : List Mth} {k : Nat}, (mthFrom n d l k = -1 ∧ ∀ c ∈ l, ¬ (c.name = n ∧ c.desc = d)) ∨ ∃ i, ∃ h : i < l.length, mthFrom n d l k = ((k + i : Nat) : Int) ∧ (l[i].name = n ∧ l[i].desc = d) ∧ ∀ j (hj : j < i), ¬ (l[j].name = n ∧ l[j].desc = d)
  | [], _ => .inl ⟨rfl, by simp⟩
  | c :: l, k => by
    by_cases hc : c.name = n ∧ c.desc = d
    · exact .inr ⟨0, by simp, by simp [mthFrom, hc], by simpa using hc, fun j hj => absurd hj (by omega)⟩
    · rcases @mthFrom_spec n d l (k + 1) with ⟨h1, h2⟩ | ⟨i, hi, h1, h2, h3⟩
      · refine .inl ⟨by simp only [mthFrom, if_neg hc, h1], fun x hx => ?_⟩
        rcases List.mem_cons.1 hx with rfl | hx
        · exact hc
        · exact h2 x hx
      · refine .inr ⟨i + 1, by simpa using hi, by simp only [mthFrom, if_neg hc, h1]; omega, by simpa using h2, fun j hj => ?_⟩
        cases j with
        | zero => simpa using hc
        | succ j => simpa using h3 j (by omega)
end Go.Proofs
namespace Go.Proofs
open Go Go.Ev

def nxt (l : List Cls) (k : Int) : Int := if k < 0 then -1 else findFrom (atL l k.toNat).super l 0
def ups (l : List Cls) : Nat → Int → List Nat
  | 0, _ => []
  | f + 1, k => if k < 0 then [] else k.toNat :: ups l f (nxt l k)
def Ends (l : List Cls) : Nat → Int → Prop
  | 0, k => k < 0
  | f + 1, k => k < 0 ∨ Ends l f (nxt l k)
/-- is the nearest method abstract? -/
def near (l : List Cls) (n d : Str) : Nat → Int → Bool
  | 0, _ => false
  | f + 1, k => if k < 0 then false else if 0 ≤ mthFrom n d (atL l k.toNat).methods 0 then (atL (atL l k.toNat).methods (mthFrom n d (atL l k.toNat).methods 0).toNat).abstr else near l n d f (nxt l k)
def okPair (l : List Cls) (c : Cls) (i : Nat) (m : Mth) : Bool :=
  decide (m.name = init) ||
    (!(decide (0 ≤ mthFrom m.name m.desc c.methods 0) && (m.final || !(m.static == (atL c.methods (mthFrom m.name m.desc c.methods 0).toNat).static))) &&
    !(m.abstr && !c.abstr && near l m.name m.desc (l.length + 1) i))
def accOK (l : List Cls) (i : Nat) : Bool := (ups l l.length (nxt l i)).all fun u => (atL l u).methods.all (okPair l (atL l i) i)

theorem nxt_nat {l : List Cls} {k : Nat} : nxt l k = findFrom (atL l k).super l 0 := by simp [nxt, show ¬ ((k : Int) < 0) from by omega]
theorem nxt_ge {l : List Cls} {k : Int} : -1 ≤ nxt l k ∧ nxt l k < l.length := by
  unfold nxt
  split
  · omega
  · exact findFrom_ge
theorem ups_nat {l : List Cls} {f k : Nat} : ups l (f + 1) k = k :: ups l f (nxt l k) := by simp [ups, show ¬ ((k : Int) < 0) from by omega]
theorem near_nat {l : List Cls} {n d : Str} {f k : Nat} : near l n d (f + 1) k = if 0 ≤ mthFrom n d (atL l k).methods 0 then (atL (atL l k).methods (mthFrom n d (atL l k).methods 0).toNat).abstr else near l n d f (nxt l k) := by simp [near, show ¬ ((k : Int) < 0) from by omega]
theorem Ends_nat {l : List Cls} {f k : Nat} (h : Ends l f k) : ∃ g, f = g + 1 ∧ Ends l g (nxt l k) := by
  cases f with
  | zero => exact absurd h (by simp [Ends])
  | succ g => exact ⟨g, rfl, h.resolve_left (by omega)⟩
theorem mthFrom_lt {n d : Str} {l : List Mth} (h : 0 ≤ mthFrom n d l 0) : (mthFrom n d l 0).toNat < l.length := by
  rcases @mthFrom_spec n d l 0 with ⟨h1, _⟩ | ⟨i, hi, h1, _⟩ <;> omega
theorem mthFrom_ge {n d : Str} {l : List Mth} : -1 ≤ mthFrom n d l 0 ∧ mthFrom n d l 0 < l.length := by
  rcases @mthFrom_spec n d l 0 with ⟨h1, _⟩ | ⟨i, hi, h1, _⟩ <;> omega
theorem mthFrom_has {l : List Mth} {j : Nat} (h : j < l.length) : 0 ≤ mthFrom l[j].name l[j].desc l 0 := by
  rcases @mthFrom_spec l[j].name l[j].desc l 0 with ⟨_, h2⟩ | ⟨i, hi, h1, _⟩
  · exact absurd ⟨rfl, rfl⟩ (h2 _ (List.getElem_mem h))
  · omega
end Go.Proofs
namespace Go.Proofs
open Go Go.Ev
/-- the map of the places, built one class after the other -/
def plc (es : List (Str × Int)) : Nat → List Cls → List (Str × Int)
  | _, [] => es
  | i, c :: cs => plc (if (lookM es c.name).isSome then es else es ++ [(c.name, (i : Int))]) (i + 1) cs
def places (l : List Cls) : List (Str × Int) := plc [] 0 l
@[simp] def wv (l : List Cls) : V := .fp [.lst false 6 (l.map eC), .fmap (places l)]
theorem lookM_append (es : List (Str × Int)) (k : Str) (v : Int) (n : Str) : lookM (es ++ [(k, v)]) n = match lookM es n with | some x => some x | none => if k = n then some v else none := by
  induction es with
  | nil => simp [lookM]
  | cons e es ih =>
    simp only [List.cons_append, lookM]
    split
    · simp
    · exact ih
theorem lookM_plc (n : Str) : ∀ (cs : List Cls) (es : List (Str × Int)) (i : Nat), lookM (plc es i cs) n = match lookM es n with | some x => some x | none => if findFrom n cs i < 0 then none else some (findFrom n cs i)
  | [], es, i => by simp only [plc, findFrom]; cases lookM es n <;> simp
  | c :: cs, es, i => by
    simp only [plc]
    rw [lookM_plc n cs _ (i + 1)]
    by_cases hs : (lookM es c.name).isSome = true
    · rw [if_pos hs]
      cases hn : lookM es n with
      | some x => rfl
      | none =>
        have : c.name ≠ n := fun e => by rw [e, hn] at hs; cases hs
        simp only [findFrom, if_neg this]
    · rw [if_neg hs, lookM_append]
      cases hn : lookM es n with
      | some x => rfl
      | none =>
        by_cases hc : c.name = n
        · simp only [if_pos hc, findFrom]
          rw [if_neg (by omega)]
        · simp only [if_neg hc, findFrom]
theorem lookM_places (l : List Cls) (n : Str) : lookM (places l) n = if findFrom n l 0 < 0 then none else some (findFrom n l 0) := lookM_plc n l [] 0
def posn (l : List Cls) (n : Str) : Int := if 0 ≤ findFrom n l 0 then findFrom n l 0 else 0
@[simp] theorem look_some (l : List Cls) (n : Str) : (lookM (places l) n).isSome = decide (0 ≤ findFrom n l 0) := by
  rw [lookM_places]; split <;> simp <;> omega
@[simp] theorem look_get (l : List Cls) (n : Str) : (lookM (places l) n).getD 0 = posn l n := by
  rw [lookM_places]; unfold posn; split <;> (split <;> first | rfl | omega)
def zC : Cls := ⟨[], [], false, false, [], []⟩
/-- the class of a name; the zero class, if there is none -/
def clsOf (l : List Cls) (n : Str) : Cls := if 0 ≤ findFrom n l 0 then atL l (findFrom n l 0).toNat else zC
theorem clsOf_found {l : List Cls} {n : Str} (h : 0 ≤ findFrom n l 0) : ∃ i, ∃ h : i < l.length, findFrom n l 0 = i ∧ posn l n = i ∧ clsOf l n = l[i] ∧ l[i].name = n := by
  rcases @findFrom_spec n l 0 with ⟨h1, _⟩ | ⟨i, hi, h1, h2, _⟩
  · omega
  · refine ⟨i, hi, by simpa using h1, ?_, ?_, h2⟩
    · unfold posn; rw [if_pos h]; simpa using h1
    · unfold clsOf; rw [if_pos h, h1]; simp [atL_lt hi]
theorem clsOf_none {l : List Cls} {n : Str} (h : ¬ 0 ≤ findFrom n l 0) : clsOf l n = zC := by unfold clsOf; rw [if_neg h]
theorem wk_zC : Wk (.agg [.str [], .str [], .bool false, .bool false, .raw (.slice none 0 0), .raw (.slice none 0 0)]) (eC zC) :=
  Wk.agg (.cons (Wk.refl _) (.cons (Wk.refl _) (.cons (Wk.refl _) (.cons (Wk.refl _) (.cons (Wk.nilSlice _ _) (.cons (Wk.nilSlice _ _) .nil))))))
theorem sizeC_zC : sizeC zC = 0 := rfl
theorem clsOf_size {l : List Cls} {n : Str} : sizeC (clsOf l n) ≤ sizeL l := by
  by_cases h : 0 ≤ findFrom n l 0
  · obtain ⟨i, hi, _, _, e, _⟩ := clsOf_found h
    rw [e]; exact sizeL_at hi
  · rw [clsOf_none h, sizeC_zC]; omega
def bIn (n : Str) : Bool := decide (0 ≤ builtIx n)
theorem bIn_any (n : Str) : builtIn.any (fun x => decide (n = x)) = bIn n := by
  have key : ∀ (l : List Str) (i : Nat), 0 ≤ ixFrom n l i ↔ l.any (fun x => decide (n = x)) = true := by
    intro l
    induction l with
    | nil => intro i; simp [ixFrom]
    | cons x l ih =>
      intro i
      simp only [ixFrom, List.any_cons]
      by_cases h : x = n
      · subst h; simp
      · rw [if_neg h, ih, decide_eq_false (fun e => h e.symm), Bool.false_or]
  rw [Bool.eq_iff_iff, ← key builtIn 0, bIn, decide_eq_true_eq]
  rfl
theorem typeClass_eq {t : Str} (h : typeRight t = true) (h1 : t ≠ [73]) (h2 : t ≠ [91, 73]) :
    2 < t.length ∧ (isAt t 0 91 = true → 3 < t.length) ∧ typeClass t = if isAt t 0 91 = true then seg t 2 (t.length - 1) else seg t 1 (t.length - 1) := by
  have hlong := typeRight_long h
  have hl := len_of_typeRight h
  have h' := h
  simp only [typeRight, Bool.and_eq_true, decide_eq_true_eq] at h'
  obtain ⟨⟨_, k1⟩, k2⟩ := h'
  by_cases h91 : isAt t 0 91 = true
  · have h73 : isAt t 1 73 = false := by
      cases h3 : isAt t 1 73 with
      | false => rfl
      | true =>
        simp only [tyP, h91, if_true, tyP1, h3] at k2
        exfalso
        match t, k2 with
        | [a, b], _ =>
          simp only [isAt, List.getElem?_cons_zero, List.getElem?_cons_succ] at h91 h3
          simp at h91 h3
          apply h2
          rw [(u8_eq (n := 91) (by decide)).1 h91, (u8_eq (n := 73) (by decide)).1 h3]
          rfl
    have hl3 := hlong.2.1 h91 h73
    refine ⟨by omega, fun _ => hl3, ?_⟩
    rw [typeClass, if_pos h, if_pos h91, if_pos h91, tClass, if_neg (by rw [isAt_drop]; simp [h73])]
    simp only [seg, List.length_drop]
    rw [List.take_drop, List.drop_drop]
    congr 2
    omega
  · have h91 : isAt t 0 91 = false := by simpa using h91
    have h73 : isAt t 0 73 = false := by
      cases h3 : isAt t 0 73 with
      | false => rfl
      | true =>
        simp only [tyP, h91, tyP1, h3] at k2
        exfalso
        match t, k2 with
        | [a], _ =>
          simp only [isAt, List.getElem?_cons_zero] at h3
          simp at h3
          apply h1
          rw [(u8_eq (n := 73) (by decide)).1 h3]
          rfl
    have hl3 := hlong.2.2 h91 h73
    refine ⟨hl3, by simp [h91], ?_⟩
    rw [typeClass, if_pos h, if_neg (by simp [h91]), if_neg (by simp [h91]), tClass, if_neg (by simp [h73])]
theorem typeClass_no {t : Str} (h : typeRight t = true → (t = [73] ∨ t = [91, 73])) : typeClass t = [] := by
  by_cases hr : typeRight t = true
  · rcases h hr with rfl | rfl <;> decide
  · rw [typeClass, if_neg hr]
/-- the super class as the program sees it: its own classes first -/
def superI (l : List Cls) (n : Str) : Str :=
  if 0 ≤ findFrom n l 0 then (clsOf l n).super else if bIn n = false ∨ n = sObject then [] else if n = sError then sObject else sError
def superCode (l : List Cls) (c : Cls) : Int :=
  if isKnown l c.super then (if (decide (0 ≤ findFrom c.super l 0) && (clsOf l c.super).final) || (builtIn.drop 2).any (fun x => decide (c.super = x)) then 14 else 0) else 8
theorem superI_le {l : List Cls} {n : Str} : (superI l n).length ≤ sizeL l + 6 := by
  have := clsOf_size (l := l) (n := n)
  simp only [sizeC] at this
  unfold superI sObject sError
  split
  · omega
  · split
    · simp
    · split <;> simp
theorem typeK_of (l : List Cls) (t : Str) : (decide (typeClass t = []) || isKnown l (typeClass t)) = typeK l t := rfl
theorem any_not_all {α : Type} (p : α → Bool) (l : List α) : (l.any fun x => !p x) = !l.all p := by
  induction l with
  | nil => rfl
  | cons x l ih => simp only [List.any_cons, List.all_cons, ih, Bool.not_and]
theorem fix_find {n : Str} (l : List Cls) : fix (fun c => decide (c.name = n)) l = findFrom n l 0 := by
  have key : ∀ (l : List Cls) (i : Nat), findFrom n l i = if fix (fun c => decide (c.name = n)) l < 0 then -1 else fix (fun c => decide (c.name = n)) l + i := by
    intro l
    induction l with
    | nil => intro i; simp [findFrom, fix]
    | cons c l ih =>
      intro i
      simp only [findFrom, fix]
      by_cases hc : c.name = n
      · simp [hc]
      · rw [if_neg hc, ih]
        simp only [hc, decide_false, Bool.false_eq_true, if_false]
        split
        · simp
        · rw [if_neg (by omega)]; omega
  rw [key]
  have := fix_lt (p := fun c : Cls => decide (c.name = n)) (l := l)
  split <;> omega
theorem fix_mth {n d : Str} (l : List Mth) : fix (fun m => decide (m.name = n) && decide (m.desc = d)) l = mthFrom n d l 0 := by
  have key : ∀ (l : List Mth) (i : Nat), mthFrom n d l i = if fix (fun m => decide (m.name = n) && decide (m.desc = d)) l < 0 then -1 else fix (fun m => decide (m.name = n) && decide (m.desc = d)) l + i := by
    intro l
    induction l with
    | nil => intro i; simp [mthFrom, fix]
    | cons c l ih =>
      intro i
      simp only [mthFrom, fix]
      by_cases hc : c.name = n ∧ c.desc = d
      · simp [hc]
      · rw [if_neg hc, ih]
        have : (decide (c.name = n) && decide (c.desc = d)) = false := by
          rw [Bool.eq_false_iff]; intro h; apply hc; simpa using h
        simp only [this, Bool.false_eq_true, if_false]
        split
        · simp
        · rw [if_neg (by omega)]; omega
  rw [key]
  have := fix_lt (p := fun m : Mth => decide (m.name = n) && decide (m.desc = d)) (l := l)
  split <;> omega
end Go.Proofs
namespace Go.Proofs
open Go Go.Ev

theorem pigeon : ∀ (n : Nat) (f : Nat → Nat), (∀ s, s ≤ n → f s < n) → ∃ a b, a < b ∧ b ≤ n ∧ f a = f b
  | 0, f, h => absurd (h 0 (Nat.le_refl _)) (by omega)
  | n + 1, f, h => by
    by_cases hc : ∃ a, a ≤ n ∧ f a = f (n + 1)
    · obtain ⟨a, h1, h2⟩ := hc
      exact ⟨a, n + 1, by omega, Nat.le_refl _, h2⟩
    · obtain ⟨a, b, h1, h2, h3⟩ := pigeon n (fun s => if f (n + 1) < f s then f s - 1 else f s) (fun s hs => by
        have h1 := h s (by omega)
        have h2 := h (n + 1) (Nat.le_refl _)
        have h3 : f s ≠ f (n + 1) := fun e => hc ⟨s, hs, e⟩
        split <;> omega)
      refine ⟨a, b, h1, by omega, ?_⟩
      have k1 : f a ≠ f (n + 1) := fun e => hc ⟨a, by omega, e⟩
      have k2 : f b ≠ f (n + 1) := fun e => hc ⟨b, by omega, e⟩
      split at h3 <;> split at h3 <;> omega

def itr (l : List Cls) : Nat → Int → Int
  | 0, k => k
  | s + 1, k => itr l s (nxt l k)
theorem nxt_neg {l : List Cls} {k : Int} (h : k < 0) : nxt l k = -1 := by simp [nxt, h]
theorem itr_add (l : List Cls) : ∀ (a b : Nat) (k : Int), itr l (a + b) k = itr l b (itr l a k)
  | 0, b, k => by simp [itr]
  | a + 1, b, k => by rw [show a + 1 + b = (a + b) + 1 from by omega]; simp only [itr]; exact itr_add l a b _
theorem itr_lt {l : List Cls} : ∀ (s : Nat) {k : Int}, k < l.length → itr l s k < l.length
  | 0, k, h => h
  | s + 1, k, h => itr_lt s (nxt_ge).2
theorem Ends_of_itr {l : List Cls} : ∀ (f : Nat) {k : Int}, itr l f k < 0 → Ends l f k
  | 0, k, h => h
  | f + 1, k, h => .inr (Ends_of_itr f h)
theorem itr_neg {l : List Cls} : ∀ (s : Nat) {k : Int}, k < 0 → itr l s k < 0
  | 0, k, h => h
  | s + 1, k, h => itr_neg s (by rw [nxt_neg h]; omega)
/-- does one come round to i? -/
def cycF (l : List Cls) (i : Nat) : Nat → Int → Bool
  | 0, _ => false
  | f + 1, k => if k < 0 then false else if k = i then true else cycF l i f (nxt l k)
def cyc (l : List Cls) (i : Nat) : Bool := cycF l i (l.length + 1) (nxt l i)
theorem cycF_of {l : List Cls} {i : Nat} : ∀ (s f : Nat) {k : Int}, s < f → itr l s k = i → cycF l i f k = true
  | 0, f, k, h, e => by
    cases f with
    | zero => omega
    | succ f => simp only [itr] at e; subst e; simp [cycF, show ¬ ((i : Int) < 0) from by omega]
  | s + 1, f, k, h, e => by
    cases f with
    | zero => omega
    | succ f =>
      simp only [cycF]
      have h0 : ¬ k < 0 := fun hk => by have := itr_neg (l := l) (s + 1) hk; omega
      rw [if_neg h0]
      split
      · rfl
      · exact cycF_of s f (by omega) e
theorem cycF_itr {l : List Cls} {i : Nat} : ∀ (f : Nat) {k : Int}, cycF l i f k = true → ∃ s, s < f ∧ itr l s k = i
  | 0, k, h => by simp [cycF] at h
  | f + 1, k, h => by
    simp only [cycF] at h
    split at h
    · cases h
    · split at h
      · rename_i e; exact ⟨0, by omega, e⟩
      · obtain ⟨s, h1, h2⟩ := cycF_itr f h
        exact ⟨s + 1, by omega, h2⟩
theorem ends_of_noCyc {l : List Cls} (h : ∀ i, i < l.length → cyc l i = false) {j : Nat} (hj : j < l.length) : Ends l (l.length + 1) j := by
  apply Ends_of_itr
  rcases Int.lt_or_le (itr l (l.length + 1) j) 0 with h0 | h0
  · exact h0
  have hpos : ∀ s, s ≤ l.length + 1 → 0 ≤ itr l s j := fun s hs => by
    rcases Int.lt_or_le (itr l s j) 0 with h1 | h1
    · have := itr_neg (l := l) (l.length + 1 - s) h1
      rw [← itr_add, show s + (l.length + 1 - s) = l.length + 1 from by omega] at this
      omega
    · exact h1
  obtain ⟨a, b, h1, h2, h3⟩ := pigeon l.length (fun s => (itr l s j).toNat) (fun s hs => by
    have := hpos s (by omega)
    have := itr_lt (l := l) s (k := j) (by omega)
    omega)
  have ha := hpos a (by omega)
  have hb := hpos b (by omega)
  have hlt := itr_lt (l := l) a (k := j) (by omega)
  have hcy := h (itr l a j).toNat (by omega)
  have e : itr l (b - a - 1) (nxt l (itr l a j)) = ((itr l a j).toNat : Int) := by
    show itr l (b - a - 1 + 1) (itr l a j) = _
    rw [← itr_add, show a + (b - a - 1 + 1) = b from by omega]
    omega
  have := cycF_of (l := l) (i := (itr l a j).toNat) (b - a - 1) (l.length + 1) (by omega) e
  rw [cyc, show (((itr l a j).toNat : Nat) : Int) = itr l a j from by omega] at hcy
  rw [this] at hcy
  cases hcy

/-- the first one with a code -/
def firstBad (code : Nat → Int) : Nat → Nat → Option (Nat × Int)
  | 0, _ => none
  | n + 1, i => if code i = 0 then firstBad code n (i + 1) else some (i, code i)
theorem firstBad_none {code : Nat → Int} : ∀ {n i : Nat}, firstBad code n i = none → ∀ j, i ≤ j → j < i + n → code j = 0
  | 0, i, _, j, h1, h2 => by omega
  | n + 1, i, h, j, h1, h2 => by
    simp only [firstBad] at h
    split at h
    · rename_i h0
      by_cases hj : j = i
      · subst hj; exact h0
      · exact firstBad_none h j (by omega) (by omega)
    · cases h
theorem firstBad_congr {c1 c2 : Nat → Int} : ∀ {n i : Nat}, (∀ j, i ≤ j → j < i + n → c1 j = c2 j) → firstBad c1 n i = firstBad c2 n i
  | 0, _, _ => rfl
  | n + 1, i, h => by
    simp only [firstBad, h i (Nat.le_refl _) (by omega), firstBad_congr (n := n) (i := i + 1) (fun j h1 h2 => h j (by omega) (by omega))]

def pass1 (l : List Cls) (i : Nat) : Int := if clsRight (atL l i) then (if 0 ≤ builtIx (atL l i).name ∨ findFrom (atL l i).name l 0 < i then 7 else 0) else 1
def pass2 (l : List Cls) (i : Nat) : Int := if isKnown l (atL l i).super then (if 1 < builtIx (atL l i).super ∨ (0 ≤ findFrom (atL l i).super l 0 ∧ (atL l (findFrom (atL l i).super l 0).toNat).final = true) then 14 else 0) else 8
def pass3 (l : List Cls) (i : Nat) : Int := if clsK l (atL l i) then 0 else 6
def pass4 (l : List Cls) (i : Nat) : Int := if cyc l i then 9 else 0
def pass5 (l : List Cls) (i : Nat) : Int := if accOK l i then 0 else 14
def checkAll (l : List Cls) : Int × Int :=
  match firstBad (pass1 l) l.length 0 with
  | some (i, c) => (i, c)
  | none => match firstBad (pass2 l) l.length 0 with
    | some (i, c) => (i, c)
    | none => match firstBad (pass3 l) l.length 0 with
      | some (i, c) => (i, c)
      | none => match firstBad (pass4 l) l.length 0 with
        | some (i, c) => (i, c)
        | none => match firstBad (pass5 l) l.length 0 with
          | some (i, c) => (i, c)
          | none => (0, 0)
def worldCheck (l : List Cls) : Int × Int := if 400 < l.length then (0, 2) else if 10 < l.length then (10, 1) else checkAll l
/-- is it a right world? -/
def rightW (l : List Cls) : Bool := decide ((worldCheck l).2 = 0)
def knownW (l : List Cls) (n : Str) : Bool := decide (n.length ≤ 20000) && (rightW l && isKnown l n)
def superW (l : List Cls) (n : Str) : Str := if (decide (n.length ≤ 20000) && rightW l) = true then superOf l n else []
theorem uniq_of_pass1 {l : List Cls} {i : Nat} (hi : i < l.length) (h : pass1 l i = 0) : findFrom l[i].name l 0 = i := by
  simp only [pass1, atL_lt hi] at h
  split at h
  · split at h
    · omega
    · rename_i hn
      rcases @findFrom_spec l[i].name l 0 with ⟨_, h2⟩ | ⟨j, hj, h1, _, h3⟩
      · exact absurd rfl (h2 _ (List.getElem_mem hi))
      · rcases Nat.lt_or_ge i j with h4 | h4
        · exact absurd rfl (h3 i h4)
        · omega
  · omega
end Go.Proofs
namespace Go.Proofs
open Go Go.Ev
theorem dRead_parts (t : Str) : (dRead t).res.length ≤ t.length ∧ ∀ s ∈ (dRead t).params, s.length ≤ t.length := by
  unfold dRead
  split
  · rename_i h0
    have hlt := lt_of_isAt h0
    split
    · simp [dErr]
    · rename_i ps p h
      have hp := dParams_parts h (by simp)
      unfold dTail
      split
      · split
        · simp [dErr]
        · exact ⟨by simp; omega, hp⟩
      · split
        · split
          · simp [dErr]
          · exact ⟨by simp [seg]; omega, hp⟩
        · simp [dErr]
  · simp [dErr]
theorem dRead_le (t : Str) : (dRead t).params.length ≤ 8 := by
  unfold dRead
  split
  · split
    · simp [dErr]
    · rename_i ps p h
      have := dParams_le h
      unfold dTail
      split
      · split <;> simp [dErr]; simpa using this.1
      · split
        · split <;> simp [dErr]; simpa using this.1
        · simp [dErr]
  · simp [dErr]
def descKI (l : List Cls) (t : Str) : Bool := typeK l (dRead t).res && (dRead t).params.all (typeK l)
def clsKI (l : List Cls) (c : Cls) : Bool := c.fields.all (fun f => typeK l f.type) && c.methods.all (fun m => descKI l m.desc)
end Go.Proofs
namespace Go.Proofs
open Go Go.Ev
/-- all names that are known -/
def allN (l : List Cls) : List Str := builtIn ++ l.map (·.name)
theorem known_mem {l : List Cls} {n : Str} (h : isKnown l n = true) : n ∈ allN l := by
  simp only [isKnown, Bool.or_eq_true] at h
  rcases h with h | h
  · have := bIn_any n
    unfold bIn at this
    rw [h, List.any_eq_true] at this
    obtain ⟨x, hx, e⟩ := this
    have : n = x := by simpa using e
    subst this
    exact List.mem_append_left _ hx
  · obtain ⟨i, hi, _, _, _, e⟩ := clsOf_found (l := l) (n := n) (by simpa using h)
    rw [← e]
    exact List.mem_append_right _ (List.mem_map_of_mem (List.getElem_mem hi))
def out (o : List Str) (n : Str) : Bool := o.any fun x => decide (n = x)
theorem out_iff {o : List Str} {n : Str} : out o n = true ↔ n ∈ o := by simp [out]
def cMu (l : List Cls) (o : List Str) : Nat := (allN l).countP (fun n => !out o n)
theorem countP_lt {α : Type} {p q : α → Bool} : ∀ {l : List α}, (∀ x ∈ l, q x = true → p x = true) → ∀ {y : α}, y ∈ l → p y = true → q y = false → l.countP q < l.countP p
  | [], _, y, hy, _, _ => by cases hy
  | x :: l, h, y, hy, hp, hq => by
    have hle : l.countP q ≤ l.countP p := List.countP_mono_left (fun x hx hqx => h x (by simp [hx]) hqx)
    rcases List.mem_cons.1 hy with rfl | hy
    · rw [List.countP_cons, List.countP_cons, hp, hq]; simp; omega
    · have := countP_lt (l := l) (fun x hx => h x (by simp [hx])) hy hp hq
      rw [List.countP_cons, List.countP_cons]
      have h2 := h x (by simp)
      cases hqx : q x
      · cases p x <;> simp <;> omega
      · rw [h2 hqx]; simp; omega
theorem cMu_lt {l : List Cls} {o : List Str} {n : Str} (h : isKnown l n = true) (h2 : out o n = false) : cMu l (o ++ [n]) < cMu l o := by
  refine countP_lt (fun x _ hx => ?_) (known_mem h) (by simp [h2]) ?_
  · simp only [out, List.any_append, Bool.not_or, Bool.and_eq_true] at hx ⊢; exact hx.1
  · simp [out]
theorem cMu_le (l : List Cls) (o : List Str) : cMu l o ≤ 8 + l.length := by
  have := List.countP_le_length (p := fun n => !out o n) (l := allN l)
  simp only [allN, List.length_append, List.length_map, builtIn_length] at this
  exact this
/-- the names up from n, till one that is not known or stands there already -/
def chn (l : List Cls) (o : List Str) (n : Str) : List Str :=
  if h : isKnown l n = true ∧ out o n = false then chn l (o ++ [n]) (superI l n) else o
  termination_by cMu l o
  decreasing_by exact cMu_lt h.1 h.2
def chain (l : List Cls) (n : Str) : List Str := chn l [] n
theorem chn_go {l : List Cls} {o : List Str} {n : Str} (h1 : isKnown l n = true) (h2 : out o n = false) : chn l o n = chn l (o ++ [n]) (superI l n) := by
  rw [chn, dif_pos ⟨h1, h2⟩]
theorem chn_stop {l : List Cls} {o : List Str} {n : Str} (h : ¬ (isKnown l n = true ∧ out o n = false)) : chn l o n = o := by
  rw [chn, dif_neg h]
theorem chn_len (l : List Cls) : ∀ (k : Nat) (o : List Str) (n : Str), cMu l o ≤ k → (chn l o n).length ≤ o.length + k
  | 0, o, n, h => by
    rw [chn_stop]; omega
    rintro ⟨h1, h2⟩
    have := cMu_lt h1 h2; omega
  | k + 1, o, n, h => by
    by_cases hc : isKnown l n = true ∧ out o n = false
    · rw [chn_go hc.1 hc.2]
      have := chn_len l k (o ++ [n]) (superI l n) (by have := cMu_lt hc.1 hc.2; omega)
      simp at this; omega
    · rw [chn_stop hc]; omega
theorem chain_len (l : List Cls) (n : Str) : (chain l n).length ≤ 8 + l.length := by
  have := chn_len l _ [] n (cMu_le l [])
  simpa [chain] using this
theorem chn_pre (l : List Cls) : ∀ (k : Nat) (o : List Str) (n : Str), cMu l o ≤ k → ∃ ys, chn l o n = o ++ ys
  | 0, o, n, h => by
    refine ⟨[], ?_⟩
    rw [chn_stop, List.append_nil]
    rintro ⟨h1, h2⟩
    have := cMu_lt h1 h2; omega
  | k + 1, o, n, h => by
    by_cases hc : isKnown l n = true ∧ out o n = false
    · rw [chn_go hc.1 hc.2]
      obtain ⟨ys, e⟩ := chn_pre l k (o ++ [n]) (superI l n) (by have := cMu_lt hc.1 hc.2; omega)
      exact ⟨n :: ys, by rw [e]; simp⟩
    · exact ⟨[], by rw [chn_stop hc, List.append_nil]⟩
theorem chain_cons {l : List Cls} {n : Str} (h : isKnown l n = true) : ∃ ys, chain l n = n :: ys := by
  rw [chain, chn_go h rfl]
  obtain ⟨ys, e⟩ := chn_pre l _ ([] ++ [n]) (superI l n) (Nat.le_refl _)
  exact ⟨ys, by rw [e]; rfl⟩
end Go.Proofs
namespace Go.Proofs
open Go Go.Ev
def cycI (l : List Cls) (n : Str) : Bool := decide (superI l (atL (chain l n) ((chain l n).length - 1)) = n)
def zM : Mth := ⟨[], [], false, false, false, 0, 0, [], []⟩
theorem wk_zM : Wk (.agg [.str [], .str [], .bool false, .bool false, .bool false, .int .i64 0, .int .i64 0, .raw (.slice none 0 0), .raw (.slice none 0 0)]) (eM zM) :=
  Wk.agg (.cons (Wk.refl _) (.cons (Wk.refl _) (.cons (Wk.refl _) (.cons (Wk.refl _) (.cons (Wk.refl _) (.cons (Wk.refl _) (.cons (Wk.refl _) (.cons (Wk.nilSlice _ _) (.cons (Wk.nilSlice _ _) .nil)))))))))
/-- the nearest method in these classes -/
def mUp (l : List Cls) (n d : Str) : List Str → Option Mth
  | [] => none
  | s :: ss => if 0 ≤ mthFrom n d (clsOf l s).methods 0 then some (atL (clsOf l s).methods (mthFrom n d (clsOf l s).methods 0).toNat) else mUp l n d ss
theorem mthFrom_nat {n d : Str} {l : List Mth} (h : 0 ≤ mthFrom n d l 0) : ∃ j, j < l.length ∧ mthFrom n d l 0 = (j : Nat) := by
  have := mthFrom_lt h
  exact ⟨(mthFrom n d l 0).toNat, this, by omega⟩
def okI (l : List Cls) (c : Cls) (m : Mth) : Bool :=
  !((!decide (m.name = init) && decide (0 ≤ mthFrom m.name m.desc c.methods 0)) && (m.final || !decide (m.static = (atL c.methods (mthFrom m.name m.desc c.methods 0).toNat).static))) &&
  !((m.abstr && !c.abstr) && ((mUp l m.name m.desc (chain l c.name)).getD zM).abstr)
def accI (l : List Cls) (c : Cls) : Bool := ((chain l c.name).drop 1).all fun u => (clsOf l u).methods.all (okI l c)
theorem clsOf_sizes {l : List Cls} {n : Str} (h : sizeL l ≤ 1099511627776) : (clsOf l n).methods.length ≤ 1099511627776 := by
  have := clsOf_size (l := l) (n := n)
  simp only [sizeC] at this
  omega
end Go.Proofs
namespace Go.Proofs
open Go Go.Ev
theorem okI_true {l : List Cls} {c : Cls} {m : Mth}
    (h1 : ¬ m.name = init → 0 ≤ mthFrom m.name m.desc c.methods 0 → m.final = false ∧ m.static = (atL c.methods (mthFrom m.name m.desc c.methods 0).toNat).static)
    (h2 : m.abstr = true → c.abstr = false → ((mUp l m.name m.desc (chain l c.name)).getD zM).abstr = false) : okI l c m = true := by
  unfold okI
  rw [Bool.and_eq_true]
  constructor
  · by_cases a : m.name = init
    · simp [a]
    · by_cases b : 0 ≤ mthFrom m.name m.desc c.methods 0
      · obtain ⟨e1, e2⟩ := h1 a b
        rw [decide_eq_false a, e1, decide_eq_true e2]; simp
      · rw [decide_eq_false (p := 0 ≤ _) b]; simp
  · cases a : m.abstr
    · rfl
    · cases b : c.abstr
      · rw [h2 a b]; rfl
      · rfl
end Go.Proofs
namespace Go.Proofs
open Go Go.Ev
def pI1 (l : List Cls) (c : Cls) (k : Int) : Int := if clsRight c = true then (if (bIn c.name || !decide (posn l c.name = k)) = true then 7 else 0) else 1
def pI3 (l : List Cls) (c : Cls) : Int := if clsKI l c = true then 0 else 6
def pI4 (l : List Cls) (c : Cls) : Int := if cycI l c.name = true then 9 else 0
def pI5 (l : List Cls) (c : Cls) : Int := if accI l c = true then 0 else 14
def codeI (l : List Cls) (p k : Nat) : Int := match p with
  | 0 => pI1 l (atL l k) k
  | 1 => superCode l (atL l k)
  | 2 => pI3 l (atL l k)
  | 3 => pI4 l (atL l k)
  | _ => pI5 l (atL l k)
def chkFrom (l : List Cls) (p : Nat) : Nat → Int × Int
  | 0 => (0, 0)
  | n + 1 => match firstBad (codeI l p) l.length 0 with
    | some (i, c) => (i, c)
    | none => chkFrom l (p + 1) n
def chkI (l : List Cls) : Int × Int := if 10 < l.length then (10, 1) else chkFrom l 0 5
theorem chk_hit {l : List Cls} {p n k : Nat} {c : Int} (h : firstBad (codeI l p) l.length 0 = some (k, c)) : chkFrom l p (n + 1) = ((k : Int), c) := by simp [chkFrom, h]
theorem chk_next {l : List Cls} {p n : Nat} (h : firstBad (codeI l p) l.length 0 = none) : chkFrom l p (n + 1) = chkFrom l (p + 1) n := by simp [chkFrom, h]
theorem fb_step {code : Nat → Int} {n k : Nat} (h : k < n) : firstBad code (n - k) k = if code k = 0 then firstBad code (n - (k + 1)) (k + 1) else some (k, code k) := by
  rw [show n - k = (n - (k + 1)) + 1 from by omega]; rfl
theorem known_own {l : List Cls} {k : Nat} (h : k < l.length) : isKnown l l[k].name = true := by
  unfold isKnown
  rcases @findFrom_spec l[k].name l 0 with ⟨_, h2⟩ | ⟨i, hi, h1, _⟩
  · exact absurd rfl (h2 _ (List.getElem_mem h))
  · rw [decide_eq_true (p := 0 ≤ findFrom l[k].name l 0) (by omega)]; simp
end Go.Proofs
namespace Go.Proofs
open Go Go.Ev
/-! The program's check and the reference's. -/
theorem p1_eq {l : List Cls} {k : Nat} (hk : k < l.length) : pI1 l (atL l k) k = pass1 l k := by
  simp only [pI1, pass1, atL_lt hk]
  split
  · have hb : bIn l[k].name = decide (0 ≤ builtIx l[k].name) := rfl
    rcases @findFrom_spec l[k].name l 0 with ⟨_, h2⟩ | ⟨i, hi, h1, _, h3⟩
    · exact absurd rfl (h2 _ (List.getElem_mem hk))
    · have hp : posn l l[k].name = i := by unfold posn; rw [if_pos (by omega)]; simpa using h1
      have hle : i ≤ k := by
        rcases Nat.lt_or_ge k i with h | h
        · exact absurd rfl (h3 k h)
        · exact h
      rw [hb, hp]
      by_cases hbi : 0 ≤ builtIx l[k].name
      · rw [if_pos (by simp [hbi]), if_pos (.inl hbi)]
      · by_cases hik : i = k
        · rw [if_neg (by simp [hbi, hik]), if_neg (by omega)]
        · rw [if_pos (by simp; right; omega), if_pos (by omega)]
  · rfl
theorem builtIx_lt {n : Str} : builtIx n < 8 ∧ -1 ≤ builtIx n := by
  have key : ∀ (l : List Str) (i : Nat), ixFrom n l i < ((i + l.length : Nat) : Int) ∨ ixFrom n l i = -1 := by
    intro l
    induction l with
    | nil => intro i; right; rfl
    | cons x l ih =>
      intro i
      simp only [ixFrom]
      split
      · left; simp; omega
      · rcases ih (i + 1) with h | h
        · left; simp; omega
        · exact .inr h
  have key2 : ∀ (l : List Str) (i : Nat), -1 ≤ ixFrom n l i := by
    intro l
    induction l with
    | nil => intro i; simp [ixFrom]
    | cons x l ih =>
      intro i
      simp only [ixFrom]
      split
      · omega
      · exact ih _
  have h1 := key builtIn 0
  have h2 := key2 builtIn 0
  simp only [builtIn_length] at h1
  exact ⟨by unfold builtIx; omega, h2⟩
theorem ix_range (n : Str) : ∀ (l : List Str) (i : Nat), ixFrom n l i = -1 ∨ (i : Int) ≤ ixFrom n l i
  | [], i => .inl rfl
  | x :: l, i => by
    simp only [ixFrom]
    split
    · right; omega
    · rcases ix_range n l (i + 1) with h | h
      · exact .inl h
      · right; omega
theorem ix_ge (n : Str) : ∀ (l : List Str) (i : Nat), (i : Int) ≤ ixFrom n l i ↔ l.any (fun x => decide (n = x)) = true
  | [], i => by simp only [ixFrom, List.any_nil]; constructor <;> intro h <;> first | omega | cases h
  | x :: l, i => by
    simp only [ixFrom, List.any_cons]
    by_cases h : x = n
    · subst h; simp
    · rw [if_neg h, decide_eq_false (fun e => h e.symm), Bool.false_or, ← ix_ge n l (i + 1)]
      rcases ix_range n l (i + 1) with h4 | h4 <;> omega
theorem bIx_ge2 (n : Str) : (builtIn.drop 2).any (fun x => decide (n = x)) = decide (1 < builtIx n) := by
  have hd : sObject ∉ builtIn.drop 2 ∧ sError ∉ builtIn.drop 2 := by decide
  have hno : ∀ s, s ∉ builtIn.drop 2 → s = n → ¬ (builtIn.drop 2).any (fun x => decide (n = x)) = true := by
    intro s hs e h
    rw [List.any_eq_true] at h
    obtain ⟨x, hx, e2⟩ := h
    have : n = x := by simpa using e2
    subst this; subst e; exact hs hx
  rw [Bool.eq_iff_iff, decide_eq_true_eq]
  have e : builtIx n = if sObject = n then 0 else if sError = n then 1 else ixFrom n (builtIn.drop 2) 2 := rfl
  rw [e]
  split
  · rename_i h; constructor
    · intro h2; exact absurd h2 (hno _ hd.1 h)
    · intro h2; omega
  · split
    · rename_i h; constructor
      · intro h2; exact absurd h2 (hno _ hd.2 h)
      · intro h2; omega
    · rw [← ix_ge n (builtIn.drop 2) 2]
      constructor <;> intro h <;> omega
theorem p2_eq {l : List Cls} {k : Nat} : superCode l (atL l k) = pass2 l k := by
  simp only [superCode, pass2]
  split
  · rw [bIx_ge2]
    by_cases h1 : 1 < builtIx (atL l k).super
    · rw [if_pos (by simp [h1]), if_pos (.inl h1)]
    · by_cases h2 : 0 ≤ findFrom (atL l k).super l 0
      · have e : clsOf l (atL l k).super = atL l (findFrom (atL l k).super l 0).toNat := by unfold clsOf; rw [if_pos h2]
        rw [e]
        by_cases h3 : (atL l (findFrom (atL l k).super l 0).toNat).final = true
        · rw [if_pos (by simp [h2, h3]), if_pos (.inr ⟨h2, h3⟩)]
        · rw [if_neg (by simp [h1, h3]), if_neg (by simp [h1, h3])]
      · rw [if_neg (by simp [h1, h2]), if_neg (by omega)]
  · rfl
end Go.Proofs
namespace Go.Proofs
open Go Go.Ev
theorem mthsR_all {ab : Bool} : ∀ {l pre : List Mth}, mthsR ab pre l = true → ∀ m ∈ l, mthRight m = true ∧ (m.abstr && !ab) = false
  | [], _, _, m, hm => by cases hm
  | x :: l, pre, h, m, hm => by
    simp only [mthsR, Bool.and_eq_true] at h
    rcases List.mem_cons.1 hm with rfl | hm
    · exact ⟨h.1.1.1, by have := h.1.1.2; revert this; cases m.abstr <;> cases ab <;> simp⟩
    · exact mthsR_all h.2 m hm
theorem right_of_p1 {l : List Cls} {k : Nat} (hk : k < l.length) (h : pass1 l k = 0) : clsRight l[k] = true := by
  simp only [pass1, atL_lt hk] at h
  split at h
  · assumption
  · omega
theorem meth_of_right {x : Cls} (h : clsRight x = true) : ∀ m ∈ x.methods, mthRight m = true := by
  simp only [clsRight, Bool.and_eq_true] at h
  exact fun m hm => (mthsR_all h.2.2 m hm).1
theorem head_of_right {m : Mth} (h : mthRight m = true) : mthHead m = true := by
  cases hh : mthHead m
  · rw [mthRight_no hh] at h; cases h
  · rfl
theorem p3_eq {l : List Cls} {k : Nat} (hk : k < l.length) (h : pass1 l k = 0) : pI3 l (atL l k) = pass3 l k := by
  have hr := right_of_p1 hk h
  simp only [pI3, pass3, atL_lt hk]
  have : clsKI l l[k] = clsK l l[k] := by
    unfold clsKI clsK
    congr 1
    rw [Bool.eq_iff_iff, List.all_eq_true, List.all_eq_true]
    constructor <;> intro h2 m hm <;> have h3 := h2 m hm <;> have hc := dRead_of (head_code (head_of_right (meth_of_right hr m hm)))
    · unfold descKI at h3; unfold descK; rw [hc] at h3; rw [Bool.and_comm]; exact h3
    · unfold descKI; unfold descK at h3; rw [hc]; rw [Bool.and_comm]; exact h3
  rw [this]
/-- under the first two passes the super class of a class of the list is of the list, or Object or Error -/
theorem name_not_bIn {l : List Cls} {k : Nat} (hk : k < l.length) (h : pass1 l k = 0) : ¬ 0 ≤ builtIx l[k].name := by
  simp only [pass1, atL_lt hk] at h
  split at h
  · split at h
    · omega
    · rename_i h2; intro h3; exact h2 (.inl h3)
  · omega
theorem found_name {l : List Cls} {n : Str} (h : 0 ≤ findFrom n l 0) : ∃ i, ∃ hi : i < l.length, findFrom n l 0 = i ∧ l[i].name = n ∧ superI l n = l[i].super := by
  obtain ⟨i, hi, h1, _, h3, h4⟩ := clsOf_found h
  exact ⟨i, hi, h1, h4, by unfold superI; rw [if_pos h, h3]⟩
/-- the super classes of the built-in names -/
theorem super_bIn {l : List Cls} {n : Str} (h1 : ∀ k, k < l.length → pass1 l k = 0) (hb : 0 ≤ builtIx n) : findFrom n l 0 < 0 ∧ superI l n = (if n = sObject then [] else if n = sError then sObject else sError) := by
  have hf : ¬ 0 ≤ findFrom n l 0 := by
    intro h
    obtain ⟨i, hi, _, h4, _⟩ := found_name h
    have := name_not_bIn hi (h1 i hi)
    rw [h4] at this
    exact this hb
  refine ⟨by omega, ?_⟩
  unfold superI
  have hbi : bIn n = true := by simp [bIn, hb]
  rw [if_neg hf]
  by_cases h2 : n = sObject
  · rw [if_pos (.inr h2), if_pos h2]
  · rw [if_neg (by simp [hbi, h2]), if_neg h2]
end Go.Proofs
namespace Go.Proofs
open Go Go.Ev
theorem bIx_obj : builtIx sObject = 0 ∧ builtIx sError = 1 ∧ builtIx [] = -1 := by decide
theorem bIx_cases {n : Str} (h0 : 0 ≤ builtIx n) (h1 : ¬ 1 < builtIx n) : n = sObject ∨ n = sError := by
  have e : builtIx n = if sObject = n then 0 else if sError = n then 1 else ixFrom n (builtIn.drop 2) 2 := rfl
  rw [e] at h0 h1
  by_cases h2 : sObject = n
  · exact .inl h2.symm
  · rw [if_neg h2] at h0 h1
    by_cases h3 : sError = n
    · exact .inr h3.symm
    · rw [if_neg h3] at h0 h1
      rcases ix_range n (builtIn.drop 2) 2 with h4 | h4 <;> omega
/-- passes 1 and 2 find nothing -/
def P12 (l : List Cls) : Prop := ∀ k, k < l.length → pass1 l k = 0 ∧ pass2 l k = 0
theorem nil_unknown {l : List Cls} (h : P12 l) : isKnown l [] = false := by
  unfold isKnown
  rw [decide_eq_false (by rw [bIx_obj.2.2]; omega), Bool.false_or, decide_eq_false]
  intro hf
  obtain ⟨i, hi, _, h4, _⟩ := found_name hf
  have hr := right_of_p1 hi (h i hi).1
  simp only [clsRight, clsHead, Bool.and_eq_true] at hr
  have := hr.1.1.1.1.1
  rw [h4] at this
  cases this
theorem super_obj {l : List Cls} (h : P12 l) : superI l sObject = [] := by
  rw [(super_bIn (fun k hk => (h k hk).1) (n := sObject) (by rw [bIx_obj.1]; omega)).2, if_pos rfl]
theorem super_err {l : List Cls} (h : P12 l) : superI l sError = sObject := by
  rw [(super_bIn (fun k hk => (h k hk).1) (n := sError) (by rw [bIx_obj.2.1]; omega)).2, if_neg (by decide), if_pos rfl]
theorem known_bIn {l : List Cls} {n : Str} (h : 0 ≤ builtIx n) : isKnown l n = true := by unfold isKnown; rw [decide_eq_true h]; rfl
theorem chn_obj {l : List Cls} (h : P12 l) {o : List Str} (ho : out o sObject = false) : chn l o sObject = o ++ [sObject] := by
  rw [chn_go (known_bIn (by rw [bIx_obj.1]; omega)) ho, super_obj h, chn_stop]
  rw [nil_unknown h]; simp
theorem chn_err {l : List Cls} (h : P12 l) {o : List Str} (ho : out o sObject = false) (he : out o sError = false) : chn l o sError = o ++ [sError, sObject] := by
  rw [chn_go (known_bIn (by rw [bIx_obj.2.1]; omega)) he, super_err h, chn_obj h]
  · simp
  · rw [Bool.eq_false_iff]
    intro hc
    rw [out_iff, List.mem_append] at hc
    rcases hc with hc | hc
    · rw [out_iff.2 hc] at ho; cases ho
    · revert hc; decide
/-- the super class of a class of the list -/
theorem super_cls {l : List Cls} (h : P12 l) {k : Nat} (hk : k < l.length) : superI l l[k].name = l[k].super ∧
    ((nxt l k < 0 ∧ (l[k].super = sObject ∨ l[k].super = sError)) ∨ ∃ j, ∃ hj : j < l.length, nxt l k = j ∧ l[j].name = l[k].super) := by
  have hu := uniq_of_pass1 hk (h k hk).1
  have h2 := (h k hk).2
  constructor
  · obtain ⟨i, hi, e1, _, e3⟩ := found_name (l := l) (n := l[k].name) (by omega)
    have : i = k := by omega
    subst this
    exact e3
  · simp only [pass2, atL_lt hk] at h2
    rw [nxt_nat, atL_lt hk]
    by_cases hf : 0 ≤ findFrom l[k].super l 0
    · obtain ⟨j, hj, e1, e2, _⟩ := found_name hf
      exact .inr ⟨j, hj, e1, e2⟩
    · split at h2
      · rename_i hkn
        split at h2
        · omega
        · rename_i hn
          simp only [isKnown, Bool.or_eq_true, decide_eq_true_eq] at hkn
          refine .inl ⟨by omega, bIx_cases (by omega) (fun hc => hn (.inl hc))⟩
      · omega
theorem name_inj {l : List Cls} (h : P12 l) {i j : Nat} (hi : i < l.length) (hj : j < l.length) (e : l[i].name = l[j].name) : i = j := by
  have h1 := uniq_of_pass1 hi (h i hi).1
  have h2 := uniq_of_pass1 hj (h j hj).1
  rw [e] at h1
  omega
theorem name_no_bIn {l : List Cls} (h : P12 l) {i : Nat} (hi : i < l.length) : l[i].name ≠ sObject ∧ l[i].name ≠ sError := by
  have := name_not_bIn hi (h i hi).1
  constructor <;> intro e <;> rw [e] at this
  · rw [bIx_obj.1] at this; omega
  · rw [bIx_obj.2.1] at this; omega
end Go.Proofs
namespace Go.Proofs
open Go Go.Ev
theorem least {p : Nat → Prop} : ∀ (n : Nat), p n → ∃ m, m ≤ n ∧ p m ∧ ∀ j, j < m → ¬ p j := by
  intro n
  induction n using Nat.strongRecOn with
  | _ n ih =>
    intro h
    by_cases hc : ∃ j, j < n ∧ p j
    · obtain ⟨j, hj, hp⟩ := hc
      obtain ⟨m, h1, h2, h3⟩ := ih j hj hp
      exact ⟨m, by omega, h2, h3⟩
    · exact ⟨n, Nat.le_refl _, h, fun j hj hp => hc ⟨j, hj, hp⟩⟩
/-- one comes round to k: the first time is early, and till then all are of the list and differ -/
theorem per {l : List Cls} {k : Nat} (hk : k < l.length) (h : ∃ t, 0 < t ∧ itr l t k = k) :
    ∃ p, 0 < p ∧ p ≤ l.length ∧ itr l p k = k ∧ (∀ t, t ≤ p → 0 ≤ itr l t k ∧ itr l t k < l.length) ∧ ∀ a b, a < b → b < p → itr l a k ≠ itr l b k := by
  obtain ⟨t, ht⟩ := h
  obtain ⟨p, _, ⟨hp0, hp⟩, hmin⟩ := least (p := fun t => 0 < t ∧ itr l t k = k) t ht
  have hpos : ∀ t, t ≤ p → 0 ≤ itr l t k ∧ itr l t k < l.length := fun t ht => by
    refine ⟨?_, itr_lt t (by omega)⟩
    rcases Int.lt_or_le (itr l t k) 0 with h1 | h1
    · have := itr_neg (l := l) (p - t) h1
      rw [← itr_add, show t + (p - t) = p from by omega, hp] at this
      omega
    · exact h1
  have hdis : ∀ a b, a < b → b < p → itr l a k ≠ itr l b k := fun a b h1 h2 e => by
    refine hmin (a + (p - b)) (by omega) ⟨by omega, ?_⟩
    rw [itr_add, e, ← itr_add, show b + (p - b) = p from by omega, hp]
  refine ⟨p, hp0, ?_, hp, hpos, hdis⟩
  rcases Nat.lt_or_ge l.length p with h1 | h1
  · exfalso
    obtain ⟨a, b, g1, g2, g3⟩ := pigeon l.length (fun s => (itr l s k).toNat) (fun s hs => by
      have := hpos s (by omega); omega)
    have ha := hpos a (by omega)
    have hb := hpos b (by omega)
    exact hdis a b g1 (by omega) (by omega)
  · exact h1
theorem cyc_iff {l : List Cls} {k : Nat} (hk : k < l.length) : cyc l k = true ↔ ∃ t, 0 < t ∧ itr l t k = k := by
  constructor
  · intro h
    obtain ⟨s, _, hs⟩ := cycF_itr _ h
    exact ⟨s + 1, by omega, hs⟩
  · intro h
    obtain ⟨p, h0, h1, h2, _⟩ := per hk h
    obtain ⟨q, rfl⟩ : ∃ q, p = q + 1 := ⟨p - 1, by omega⟩
    exact cycF_of q _ (by omega) h2
def nmAt (l : List Cls) (k : Int) : Str := (atL l k.toNat).name
theorem nmAt_nat {l : List Cls} {k : Nat} (hk : k < l.length) : nmAt l k = l[k].name := by simp [nmAt, atL_lt hk]
/-- one step up the orbit -/
theorem step_up {l : List Cls} (h : P12 l) {k : Int} (h0 : 0 ≤ k) (h1 : k < l.length) (h2 : 0 ≤ nxt l k) : superI l (nmAt l k) = nmAt l (nxt l k) := by
  obtain ⟨i, rfl⟩ : ∃ i : Nat, k = i := ⟨k.toNat, by omega⟩
  have hi : i < l.length := by omega
  obtain ⟨e1, e2⟩ := super_cls h hi
  rw [nmAt_nat hi, e1]
  rcases e2 with ⟨e2, _⟩ | ⟨j, hj, e2, e3⟩
  · omega
  · rw [e2, nmAt_nat hj, e3]
theorem nmAt_inj {l : List Cls} (h : P12 l) {a b : Int} (ha0 : 0 ≤ a) (ha : a < l.length) (hb0 : 0 ≤ b) (hb : b < l.length) (e : nmAt l a = nmAt l b) : a = b := by
  obtain ⟨i, rfl⟩ : ∃ i : Nat, a = i := ⟨a.toNat, by omega⟩
  obtain ⟨j, rfl⟩ : ∃ j : Nat, b = j := ⟨b.toNat, by omega⟩
  rw [nmAt_nat (by omega), nmAt_nat (by omega)] at e
  have := name_inj h (by omega) (by omega) e
  omega
end Go.Proofs
namespace Go.Proofs
open Go Go.Ev
theorem itr_succ (l : List Cls) (t : Nat) (k : Int) : itr l (t + 1) k = nxt l (itr l t k) := by
  rw [itr_add]; rfl
def cNames (l : List Cls) (k : Int) (s : Nat) : List Str := (List.range s).map fun t => nmAt l (itr l t k)
theorem cNames_succ {l : List Cls} {k : Int} {s : Nat} : cNames l k (s + 1) = cNames l k s ++ [nmAt l (itr l s k)] := by
  simp [cNames, List.range_succ]
theorem known_at {l : List Cls} {k : Int} (h0 : 0 ≤ k) (h1 : k < l.length) : isKnown l (nmAt l k) = true := by
  obtain ⟨i, rfl⟩ : ∃ i : Nat, k = i := ⟨k.toNat, by omega⟩
  rw [nmAt_nat (by omega)]; exact known_own _
/-- along the orbit, while all differ -/
theorem chn_run {l : List Cls} (h : P12 l) {k : Int} {p : Nat} (hpos : ∀ t, t ≤ p → 0 ≤ itr l t k ∧ itr l t k < l.length) (hdis : ∀ a b, a < b → b < p → itr l a k ≠ itr l b k) :
    ∀ t, t ≤ p → chn l [] (nmAt l k) = chn l (cNames l k t) (nmAt l (itr l t k))
  | 0, _ => by simp [cNames, itr]
  | t + 1, ht => by
    have h1 := hpos t (by omega)
    have h2 := hpos (t + 1) ht
    rw [chn_run h hpos hdis t (by omega), chn_go (known_at h1.1 h1.2) ?_, ← cNames_succ, step_up h h1.1 h1.2 (by rw [← itr_succ]; exact h2.1), ← itr_succ]
    rw [Bool.eq_false_iff]
    intro hc
    rw [out_iff, cNames, List.mem_map] at hc
    obtain ⟨a, ha, e⟩ := hc
    have ha : a < t := by simpa using ha
    have h3 := hpos a (by omega)
    exact hdis a t ha (by omega) (nmAt_inj h h3.1 h3.2 h1.1 h1.2 e)
theorem cyc_to {l : List Cls} (h : P12 l) {k : Nat} (hk : k < l.length) (hc : cyc l k = true) : cycI l l[k].name = true := by
  obtain ⟨p, h0, h1, h2, hpos, hdis⟩ := per hk ((cyc_iff hk).1 hc)
  have hr := chn_run h hpos hdis p (Nat.le_refl _)
  rw [h2, nmAt_nat hk] at hr
  have hst : chain l l[k].name = cNames l k p := by
    rw [chain, hr, chn_stop]
    rintro ⟨_, e⟩
    rw [Bool.eq_false_iff] at e
    refine e (out_iff.2 ?_)
    rw [cNames, List.mem_map]
    exact ⟨0, by simpa using h0, by simp [itr, nmAt_nat hk]⟩
  unfold cycI
  rw [hst]
  have hl : (cNames l k p).length = p := by simp [cNames]
  have hlast : atL (cNames l k p) (p - 1) = nmAt l (itr l (p - 1) k) := by
    rw [atL_lt (by rw [hl]; omega)]
    simp [cNames]
  have h3 := hpos (p - 1) (by omega)
  have h4 : nxt l (itr l (p - 1) k) = k := by rw [← itr_succ, show p - 1 + 1 = p from by omega, h2]
  rw [hl, hlast, step_up h h3.1 h3.2 (by rw [h4]; omega), h4, nmAt_nat hk]
  simp
/-- what the chain holds -/
def Rch (l : List Cls) (k : Int) (x : Str) : Prop := (∃ t, 0 ≤ itr l t k ∧ itr l t k < l.length ∧ x = nmAt l (itr l t k)) ∨ x = sObject ∨ x = sError
theorem Rch_up {l : List Cls} (h : P12 l) {k : Int} {x : Str} (hx : Rch l k x) : Rch l k (superI l x) ∨ superI l x = [] := by
  rcases hx with ⟨t, h0, h1, rfl⟩ | rfl | rfl
  · obtain ⟨i, hi⟩ : ∃ i : Nat, itr l t k = i := ⟨(itr l t k).toNat, by omega⟩
    have hil : i < l.length := by omega
    obtain ⟨e1, e2⟩ := super_cls h hil
    rw [hi, nmAt_nat hil, e1]
    rcases e2 with ⟨_, e2⟩ | ⟨j, hj, e2, e3⟩
    · rcases e2 with e2 | e2
      · exact .inl (.inr (.inl e2))
      · exact .inl (.inr (.inr e2))
    · refine .inl (.inl ⟨t + 1, ?_⟩)
      rw [itr_succ, hi, e2, nmAt_nat hj]
      exact ⟨by omega, by omega, e3.symm⟩
  · exact .inr (super_obj h)
  · rw [super_err h]; exact .inl (.inr (.inl rfl))
theorem chn_Rch {l : List Cls} (h : P12 l) {k : Int} : ∀ (f : Nat) (o : List Str) (n : Str), cMu l o ≤ f → (∀ x ∈ o, Rch l k x) → (Rch l k n ∨ n = []) → ∀ x ∈ chn l o n, Rch l k x
  | f, o, n, hf, ho, hn => by
    by_cases hc : isKnown l n = true ∧ out o n = false
    · have hlt := cMu_lt hc.1 hc.2
      have hR : Rch l k n := by
        rcases hn with hn | rfl
        · exact hn
        · rw [nil_unknown h] at hc; cases hc.1
      rw [chn_go hc.1 hc.2]
      cases f with
      | zero => omega
      | succ f =>
        refine chn_Rch h f _ _ (by omega) (fun x hx => ?_) (Rch_up h hR)
        rcases List.mem_append.1 hx with hx | hx
        · exact ho x hx
        · simp at hx; subst hx; exact hR
    · rw [chn_stop hc]; exact ho
theorem cyc_from {l : List Cls} (h : P12 l) {k : Nat} (hk : k < l.length) (hc : cycI l l[k].name = true) : cyc l k = true := by
  rw [cyc_iff hk]
  obtain ⟨ys, hy⟩ := chain_cons (known_own hk)
  have hlen : (chain l l[k].name).length - 1 < (chain l l[k].name).length := by rw [hy]; simp
  unfold cycI at hc
  rw [atL_lt hlen, decide_eq_true_eq] at hc
  have hm : Rch l k (chain l l[k].name)[(chain l l[k].name).length - 1] :=
    chn_Rch h _ [] l[k].name (Nat.le_refl _) (fun x hx => by cases hx) (.inl (.inl ⟨0, by simp [itr], by simp [itr]; omega, by simp [itr, nmAt_nat hk]⟩)) _ (List.getElem_mem hlen)
  have hno := name_no_bIn h hk
  rcases hm with ⟨t, h0, h1, e⟩ | e | e
  · rw [e] at hc
    obtain ⟨i, hi⟩ : ∃ i : Nat, itr l t k = i := ⟨(itr l t k).toNat, by omega⟩
    have hil : i < l.length := by omega
    obtain ⟨e1, e2⟩ := super_cls h hil
    rw [hi, nmAt_nat hil, e1] at hc
    rcases e2 with ⟨_, e2⟩ | ⟨j, hj, e2, e3⟩
    · rw [hc] at e2
      rcases e2 with e2 | e2
      · exact absurd e2 hno.1
      · exact absurd e2 hno.2
    · refine ⟨t + 1, by omega, ?_⟩
      rw [hc] at e3
      rw [itr_succ, hi, e2, name_inj h hj hk e3]
  · rw [e, super_obj h] at hc
    have := known_own hk
    rw [← hc, nil_unknown h] at this; cases this
  · rw [e, super_err h] at hc
    exact absurd hc.symm hno.1
theorem cyc_eq {l : List Cls} (h : P12 l) {k : Nat} (hk : k < l.length) : cycI l l[k].name = cyc l k := by
  rw [Bool.eq_iff_iff]; exact ⟨cyc_from h hk, cyc_to h hk⟩
theorem p4_eq {l : List Cls} (h : P12 l) {k : Nat} (hk : k < l.length) : pI4 l (atL l k) = pass4 l k := by
  simp only [pI4, pass4, atL_lt hk, cyc_eq h hk]
end Go.Proofs
namespace Go.Proofs
open Go Go.Ev
theorem ups_neg {l : List Cls} {f : Nat} {k : Int} (h : k < 0) : ups l f k = [] := by cases f <;> simp [ups, h]
theorem ups_pos {l : List Cls} {f : Nat} {k : Int} (h : 0 ≤ k) : ups l (f + 1) k = k.toNat :: ups l f (nxt l k) := by simp [ups, show ¬ k < 0 from by omega]
def Tail (tl : List Str) : Prop := tl = [sObject] ∨ tl = [sError, sObject]
theorem nmAt_no {l : List Cls} (h : P12 l) {k : Int} (h0 : 0 ≤ k) (h1 : k < l.length) : nmAt l k ≠ sObject ∧ nmAt l k ≠ sError := by
  obtain ⟨i, rfl⟩ : ∃ i : Nat, k = i := ⟨k.toNat, by omega⟩
  rw [nmAt_nat (by omega)]; exact name_no_bIn h (by omega)
theorem chn_acyc {l : List Cls} (h : P12 l) (hcy : ∀ i, i < l.length → cyc l i = false) : ∀ (f : Nat) (k : Int) (o : List Str), Ends l f k → 0 ≤ k → k < l.length →
    (∀ t, 0 ≤ itr l t k → nmAt l (itr l t k) ∉ o) → sObject ∉ o → sError ∉ o → ∃ tl, Tail tl ∧ chn l o (nmAt l k) = o ++ (ups l f k).map (fun u : Nat => nmAt l (u : Int)) ++ tl
  | 0, k, o, he, h0, _, _, _, _ => by
    have he : k < 0 := he
    omega
  | f + 1, k, o, he, h0, h1, hn, ho, hr => by
    have hno := nmAt_no h h0 h1
    obtain ⟨i, hi⟩ : ∃ i : Nat, k = i := ⟨k.toNat, by omega⟩
    subst hi
    have hil : i < l.length := by omega
    have hout : out o (nmAt l (i : Int)) = false := by
      rw [Bool.eq_false_iff]; intro hc; exact hn 0 (by simp [itr]) (out_iff.1 hc)
    obtain ⟨e1, e2⟩ := super_cls h hil
    have ho' : sObject ∉ o ++ [nmAt l (i : Int)] := by
      intro hc; rcases List.mem_append.1 hc with hc | hc
      · exact ho hc
      · exact hno.1 (List.mem_singleton.1 hc).symm
    have hr' : sError ∉ o ++ [nmAt l (i : Int)] := by
      intro hc; rcases List.mem_append.1 hc with hc | hc
      · exact hr hc
      · exact hno.2 (List.mem_singleton.1 hc).symm
    rw [chn_go (known_at h0 h1) hout, nmAt_nat hil, e1, ups_pos h0]
    rw [nmAt_nat hil] at ho' hr'
    rcases e2 with ⟨e2, e3⟩ | ⟨j, hj, e2, e3⟩
    · rw [ups_neg e2]
      rcases e3 with e3 | e3
      · exact ⟨[sObject], .inl rfl, by rw [e3, chn_obj h (by rw [Bool.eq_false_iff]; exact fun hc => ho' (out_iff.1 hc))]; simp [nmAt_nat hil]⟩
      · exact ⟨[sError, sObject], .inr rfl, by rw [e3, chn_err h (by rw [Bool.eq_false_iff]; exact fun hc => ho' (out_iff.1 hc)) (by rw [Bool.eq_false_iff]; exact fun hc => hr' (out_iff.1 hc))]; simp [nmAt_nat hil]⟩
    · have he2 : Ends l f (nxt l i) := by
        rcases he with he | he
        · omega
        · exact he
      obtain ⟨tl, ht, hc⟩ := chn_acyc h hcy f (nxt l i) (o ++ [l[i].name]) he2 (by omega) (by omega) (fun t ht hc => by
        have ht' : 0 ≤ itr l (t + 1) i := ht
        rcases List.mem_append.1 hc with hc | hc
        · exact hn (t + 1) ht' hc
        · have hc := List.mem_singleton.1 hc
          have hx := nmAt_inj h ht' (itr_lt (t + 1) (by omega)) h0 h1 (by rw [nmAt_nat hil]; exact hc)
          have := (cyc_iff hil).2 ⟨t + 1, by omega, hx⟩
          rw [hcy i hil] at this; cases this) ho' hr'
      refine ⟨tl, ht, ?_⟩
      rw [e2] at hc
      rw [nmAt_nat hj, e3] at hc
      rw [hc, e2]
      simp [nmAt_nat hil]
end Go.Proofs
namespace Go.Proofs
open Go Go.Ev
theorem clsOf_at {l : List Cls} (h : P12 l) {u : Nat} (hu : u < l.length) : clsOf l (nmAt l (u : Int)) = l[u] := by
  rw [nmAt_nat hu]
  have := uniq_of_pass1 hu (h u hu).1
  unfold clsOf
  rw [if_pos (by omega), this]
  simp [atL_lt hu]
theorem clsOf_bIn {l : List Cls} (h : P12 l) {n : Str} (hn : n = sObject ∨ n = sError) : clsOf l n = zC := by
  have hb : 0 ≤ builtIx n := by rcases hn with rfl | rfl <;> decide
  exact clsOf_none (by have := (super_bIn (l := l) (fun k hk => (h k hk).1) hb).1; omega)
theorem ups_lt {l : List Cls} : ∀ {f : Nat} {k : Int}, k < l.length → ∀ u ∈ ups l f k, u < l.length
  | 0, k, _, u, hu => by cases hu
  | f + 1, k, hk, u, hu => by
    simp only [ups] at hu
    split at hu
    · cases hu
    · rcases List.mem_cons.1 hu with rfl | hu
      · omega
      · exact ups_lt (nxt_ge).2 u hu
theorem mUp_tail {l : List Cls} (h : P12 l) {n d : Str} {tl : List Str} (ht : Tail tl) : mUp l n d tl = none := by
  have h1 : ¬ 0 ≤ mthFrom n d zC.methods 0 := by simp [zC, mthFrom]
  rcases ht with rfl | rfl
  · simp only [mUp]; rw [clsOf_bIn h (.inl rfl), if_neg h1]
  · simp only [mUp]; rw [clsOf_bIn h (.inr rfl), if_neg h1, clsOf_bIn h (.inl rfl), if_neg h1]
theorem near_mUp {l : List Cls} (h : P12 l) {n d : Str} {tl : List Str} (ht : Tail tl) : ∀ {f : Nat} {k : Int}, k < l.length →
    ((mUp l n d ((ups l f k).map (fun u : Nat => nmAt l (u : Int)) ++ tl)).getD zM).abstr = near l n d f k
  | 0, k, _ => by simp only [ups, List.map_nil, List.nil_append, mUp_tail h ht, near]; rfl
  | f + 1, k, hk => by
    rcases Int.lt_or_le k 0 with h0 | h0
    · rw [ups_neg h0, List.map_nil, List.nil_append, mUp_tail h ht]; simp [near, h0, zM]
    · rw [ups_pos h0, List.map_cons, List.cons_append]
      obtain ⟨i, hi⟩ : ∃ i : Nat, k = i := ⟨k.toNat, by omega⟩
      subst hi
      have hil : i < l.length := by omega
      rw [near_nat]
      simp only [mUp, Int.toNat_natCast, clsOf_at h hil, atL_lt hil]
      split
      · rfl
      · exact near_mUp h ht (nxt_ge).2
theorem abs_not_init {m : Mth} (h : mthRight m = true) (ha : m.abstr = true) : m.name ≠ init := by
  rw [mthRight_abs (head_of_right h) ha] at h
  simp only [Bool.and_eq_true, Bool.not_eq_true', decide_eq_false_iff_not] at h
  exact h.2
theorem acc_eq {l : List Cls} (h : P12 l) (hcy : ∀ i, i < l.length → cyc l i = false) {i : Nat} (hi : i < l.length) : accI l l[i] = accOK l i := by
  have hE := ends_of_noCyc hcy hi
  obtain ⟨tl, ht, hc⟩ := chn_acyc h hcy (l.length + 1) i [] hE (by omega) (by omega) (fun _ _ hx => by cases hx) (fun hx => by cases hx) (fun hx => by cases hx)
  rw [nmAt_nat hi, List.nil_append] at hc
  have hch : chain l l[i].name = (ups l (l.length + 1) i).map (fun u : Nat => nmAt l (u : Int)) ++ tl := hc
  have hok : ∀ m, mthRight m = true → okI l l[i] m = okPair l l[i] i m := by
    intro m hm
    unfold okI okPair
    rw [hch, near_mUp h ht (by omega)]
    by_cases hin : m.name = init
    · rw [decide_eq_true hin]
      have : m.abstr = false := by
        cases ha : m.abstr
        · rfl
        · exact absurd hin (abs_not_init hm ha)
      simp [this]
    · rw [decide_eq_false hin]
      simp only [Bool.not_false, Bool.true_and, Bool.false_or]
      congr 3
      try (cases m.static <;> cases (atL l[i].methods (mthFrom m.name m.desc l[i].methods 0).toNat).static <;> rfl)
  unfold accI accOK
  rw [hch, ups_nat, List.map_cons, List.cons_append, List.drop_one, List.tail_cons, List.all_append]
  have htl : tl.all (fun u => (clsOf l u).methods.all (okI l l[i])) = true := by
    rcases ht with rfl | rfl
    · simp [clsOf_bIn h (.inl rfl), zC]
    · simp [clsOf_bIn h (.inl rfl), clsOf_bIn h (.inr rfl), zC]
  rw [htl, Bool.and_true, List.all_map]
  have hlt := fun u hu => ups_lt (l := l) (f := l.length) (k := nxt l i) (nxt_ge).2 u hu
  rw [Bool.eq_iff_iff, List.all_eq_true, List.all_eq_true]
  have key : ∀ u ∈ ups l l.length (nxt l i), ((fun u => (clsOf l u).methods.all (okI l l[i])) ∘ fun u : Nat => nmAt l (u : Int)) u = (atL l u).methods.all (okPair l (atL l i) i) := by
    intro u hu
    have hul := hlt u hu
    show (clsOf l (nmAt l (u : Int))).methods.all (okI l l[i]) = _
    rw [clsOf_at h hul, atL_lt hul, atL_lt hi, Bool.eq_iff_iff, List.all_eq_true, List.all_eq_true]
    have hr := meth_of_right (right_of_p1 hul (h u hul).1)
    constructor <;> intro hx m hm
    · rw [← hok m (hr m hm)]; exact hx m hm
    · rw [hok m (hr m hm)]; exact hx m hm
  constructor <;> intro hx u hu
  · rw [← key u hu]; exact hx u hu
  · rw [key u hu]; exact hx u hu
theorem p5_eq {l : List Cls} (h : P12 l) (hcy : ∀ i, i < l.length → cyc l i = false) {i : Nat} (hi : i < l.length) : pI5 l (atL l i) = pass5 l i := by
  simp only [pI5, pass5, atL_lt hi, acc_eq h hcy hi]
theorem fb_eq {c1 c2 : Nat → Int} {n : Nat} (h : ∀ j, j < n → c1 j = c2 j) : firstBad c1 n 0 = firstBad c2 n 0 := firstBad_congr fun j _ h2 => h j (by omega)
theorem chkFrom_eq (l : List Cls) : chkFrom l 0 5 = checkAll l := by
  unfold checkAll
  simp only [chkFrom]
  rw [fb_eq (c1 := codeI l 0) (c2 := pass1 l) (fun j hj => p1_eq hj), fb_eq (c1 := codeI l (0 + 1)) (c2 := pass2 l) (fun j hj => p2_eq)]
  cases h1 : firstBad (pass1 l) l.length 0 with
  | some p => rfl
  | none =>
    cases h2 : firstBad (pass2 l) l.length 0 with
    | some p => rfl
    | none =>
      have hp1 : ∀ k, k < l.length → pass1 l k = 0 := fun k hk => firstBad_none h1 k (by omega) (by omega)
      have hp : P12 l := fun k hk => ⟨hp1 k hk, firstBad_none h2 k (by omega) (by omega)⟩
      simp only
      rw [fb_eq (c1 := codeI l (0 + 1 + 1)) (c2 := pass3 l) (fun j hj => p3_eq hj (hp1 j hj)), fb_eq (c1 := codeI l (0 + 1 + 1 + 1)) (c2 := pass4 l) (fun j hj => p4_eq hp hj)]
      cases h3 : firstBad (pass3 l) l.length 0 with
      | some p => rfl
      | none =>
        cases h4 : firstBad (pass4 l) l.length 0 with
        | some p => rfl
        | none =>
          have hcy : ∀ i, i < l.length → cyc l i = false := fun i hi => by
            have := firstBad_none h4 i (by omega) (by omega)
            simp only [pass4] at this
            cases hc : cyc l i
            · rfl
            · rw [hc] at this; simp at this
          simp only
          rw [fb_eq (c1 := codeI l (0 + 1 + 1 + 1 + 1)) (c2 := pass5 l) (fun j hj => p5_eq hp hcy hj)]
          all_goals (cases firstBad (pass5 l) l.length 0 <;> rfl)
theorem chkI_eq (l : List Cls) : chkI l = if 10 < l.length then (10, 1) else checkAll l := by
  unfold chkI; rw [chkFrom_eq]
theorem worldCheck_eq (l : List Cls) : (if 400 < l.length then ((0 : Int), (2 : Int)) else chkI l) = worldCheck l := by
  unfold worldCheck; rw [chkI_eq]
end Go.Proofs
