/- FnExactHeapPut: the statement Rows.FnExactHeapPutSaid holds. Conditions: none. -/
import Derived.Test.YtebbhmbngfpkaaaGreatK12
import Derived.Test.YtebbhmbngfpkaaaGreatRows
set_option linter.all false
set_option linter.unusedVariables false
set_option linter.unusedSimpArgs false
set_option maxHeartbeats 2000000
set_option maxRecDepth 100000
namespace Go.Proofs.YtebbhmbngfpkaaaGreat
open Go Go.Ev Go.Proofs Go.RowKit Go.ChangeShapes Go.WideShapes
namespace RFnExactHeapPut
theorem k2 : Tryz.checked.prog.inits.idxOf? 6 = none := by kernel_rfl
theorem k3 (os : Os) : (World.plainHolding Tryz.checked.prog os ⟨#[], #[.slice none 0 0, .agg #[.slice none 0 0, .int .i64 0], .int .i64 0, .int .i64 0, .agg #[.int .i64 0, .int .i64 0]], []⟩).variablesB Tryz.checked.prog = true := by kernel_rfl
theorem k4 (os : Os) : ((World.plainHolding Tryz.checked.prog os ⟨#[], #[.slice none 0 0, .agg #[.slice none 0 0, .int .i64 0], .int .i64 0, .int .i64 0, .agg #[.int .i64 0, .int .i64 0]], []⟩).heap.toList.drop Tryz.checked.prog.globals.size).take ((begin Tryz.checked.prog (fun _ _ => 0) default).world.heap.size - Tryz.checked.prog.globals.size) = (begin Tryz.checked.prog (fun _ _ => 0) default).world.heap.toList.drop Tryz.checked.prog.globals.size := by kernel_rfl
theorem k5 (os : Os) : Input.okWideB Tryz.checked.prog (World.plainHolding Tryz.checked.prog os ⟨#[], #[.slice none 0 0, .agg #[.slice none 0 0, .int .i64 0], .int .i64 0, .int .i64 0, .agg #[.int .i64 0, .int .i64 0]], []⟩) 6 ⟨#[], (⟨#[], #[.slice none 0 0, .agg #[.slice none 0 0, .int .i64 0], .int .i64 0, .int .i64 0, .agg #[.int .i64 0, .int .i64 0]], []⟩ : Input).args, []⟩ = true := by kernel_rfl
theorem k6 (os : Os) (H : Type) (enc : TypeId × Value → H) : Rows.fnExactHeapPutSpec.preB enc Tryz.checked.prog Tryz.f6 [] false (World.plainHolding Tryz.checked.prog os ⟨#[], #[.slice none 0 0, .agg #[.slice none 0 0, .int .i64 0], .int .i64 0, .int .i64 0, .agg #[.int .i64 0, .int .i64 0]], []⟩).memory (⟨#[], #[.slice none 0 0, .agg #[.slice none 0 0, .int .i64 0], .int .i64 0, .int .i64 0, .agg #[.int .i64 0, .int .i64 0]], []⟩ : Input).args 8 = true := by kernel_rfl
theorem k7 (os : Os) (H : Type) (enc : TypeId × Value → H) : Rows.fnExactHeapPutSpec.sizedB enc Tryz.checked.prog Tryz.f6 false (World.plainHolding Tryz.checked.prog os ⟨#[], #[.slice none 0 0, .agg #[.slice none 0 0, .int .i64 0], .int .i64 0, .int .i64 0, .agg #[.int .i64 0, .int .i64 0]], []⟩).memory (⟨#[], #[.slice none 0 0, .agg #[.slice none 0 0, .int .i64 0], .int .i64 0, .int .i64 0, .agg #[.int .i64 0, .int .i64 0]], []⟩ : Input).args 8 = true := by kernel_rfl
theorem k9 : (Tryz.f6.params.toList.all fun t => Tryz.prog.readableRec t && decide (t < Tryz.prog.types.size)) = true := by kernel_rfl
theorem k10 : shpA Tryz.prog 9 Tryz.f6.params.toList = some [aC, aH, aI, aI, aV] := by kernel_rfl
theorem h1 : Rows.fnExactHeapPutRow.wf (OpenSpec.ofChange Rows.fnExactHeapPutSpec) = true := by kernel_rfl
theorem h4 : Tryz.f6.params.all (Tryz.checked.prog.readableRec ·) = true := by kernel_rfl
theorem h5 : namedTie Tryz.checked.prog Rows.fnExactHeapPutRow.named Rows.fnExactHeapPutSpec.vars = true := by kernel_rfl
theorem h7 : (Rows.fnExactHeapPutRow.inPlace == Tryz.checked.prog.inPlace 6) = true := by kernel_rfl
theorem h8 : (Rows.fnExactHeapPutRow.unfollowed == Tryz.checked.prog.unfollowed 6) = true := by kernel_rfl
theorem h9 : (Rows.fnExactHeapPutRow.recurses == Tryz.checked.prog.recurses 6) = true := by kernel_rfl
theorem h10 : (Rows.fnExactHeapPutRow.named == Tryz.checked.prog.varsNamed 6) = true := by kernel_rfl
theorem h11 : (Rows.fnExactHeapPutRow.maps == (Tryz.f6.params.toList ++ Rows.fnExactHeapPutSpec.plain.varTypes Tryz.checked.prog).any (Tryz.checked.prog.mapsRec ·)) = true := by kernel_rfl
theorem h12 : (Rows.fnExactHeapPutRow.ifaces == (Tryz.f6.params.toList ++ Rows.fnExactHeapPutSpec.plain.varTypes Tryz.checked.prog).any (Tryz.checked.prog.ifacesRec ·)) = true := by kernel_rfl
theorem h13 : (Rows.fnExactHeapPutRow.mapsOut == Tryz.checked.prog.mapsAmong Tryz.f6.resultTypes.toList) = true := by kernel_rfl
theorem h14 : (Rows.fnExactHeapPutRow.loops == (Tryz.f6.params.toList ++ Rows.fnExactHeapPutSpec.plain.varTypes Tryz.checked.prog).any (Tryz.checked.prog.loopsFrom ·)) = true := by kernel_rfl
theorem h15 : (Rows.fnExactHeapPutRow.wideKeys == (Tryz.f6.params.toList ++ Rows.fnExactHeapPutSpec.plain.varTypes Tryz.checked.prog ++ Tryz.f6.resultTypes.toList).any (Tryz.checked.prog.wideKeysFrom ·)) = true := by kernel_rfl
theorem h16 : Rows.fnExactHeapPutSpec.vars.all (Tryz.checked.prog.varReadable ·) = true := by kernel_rfl
theorem h17 : Tryz.f6.resultTypes.all (fun t => Tryz.checked.prog.readableRec t && decide (t < Tryz.checked.prog.types.size)) = true := by kernel_rfl
theorem h18 : (Rows.fnExactHeapPutRow.ifacesOut == Tryz.f6.resultTypes.toList.any (Tryz.checked.prog.ifacesRec ·)) = true := by kernel_rfl
theorem h19 : (Rows.fnExactHeapPutRow.loopsOut == Tryz.f6.resultTypes.toList.any (Tryz.checked.prog.loopsFrom ·)) = true := by kernel_rfl
theorem h24 : Rows.fnExactHeapPutRow.domain = [] ∧ Rows.fnExactHeapPutRow.kinds = [] := by exact ⟨rfl, rfl⟩
theorem h25 : (Rows.fnExactHeapPutRow.pinned == Rows.fnExactHeapPutRow.pinnedBy) = true := by kernel_rfl
theorem h26 : (Rows.fnExactHeapPutRow.veiled == (Tryz.f6.params.toList ++ Rows.fnExactHeapPutSpec.plain.varTypes Tryz.checked.prog ++ Tryz.f6.resultTypes.toList).any (Tryz.checked.prog.veiledRec ·)) = true := by kernel_rfl
theorem h27 : Rows.fnExactHeapPutRow.veiledFits Tryz.checked.prog Tryz.f6.params.toList (Tryz.f6.params.toList ++ Rows.fnExactHeapPutSpec.plain.varTypes Tryz.checked.prog ++ Tryz.f6.resultTypes.toList) = true := by kernel_rfl
theorem k11 : joinedFacts Tryz.checked.prog 6 Tryz.f6 Rows.fnExactHeapPutSpec Rows.fnExactHeapPutRow = true := joined_of h1 s_h2 s_h3 h4 h5 s_h6 h7 h8 h9 h10 h11 h12 h13 h14 h15 h16 h17 h18 h19 s_h20 s_h21 s_h21b s_h22 s_h23 h24 h25 h26 h27
theorem k12 : Tryz.checked.prog.funcNamed Rows.fnExactHeapPutRow.func = some 6 := by kernel_rfl
theorem k13 : Tryz.f6.isInstance Tryz.checked.prog Rows.fnExactHeapPutRow.origin Rows.fnExactHeapPutRow.targs := of_decide_eq_true (by kernel_rfl)
theorem k14 : Tryz.f6.isWrapper Tryz.checked.prog Rows.fnExactHeapPutRow.wrapper Rows.fnExactHeapPutRow.mainSum := by unfold Func.isWrapper; first | (rw [if_pos (by decide +kernel)]; kernel_rfl) | (rw [if_neg (by decide +kernel)]; exact ⟨rfl, rfl⟩)
theorem lifted (os : Os) (started : os.Started) (H : Type) (enc : TypeId × Value → H) : ReturnsInHanded {} Tryz.checked os 6 .any (Rows.fnExactHeapPutSpec.pre6 enc Tryz.checked.prog Tryz.f6 [] false) (Rows.fnExactHeapPutSpec.post enc Tryz.checked.prog Tryz.f6 false Rows.fnExactHeapPutRow.fresh Rows.fnExactHeapPutRow.handsOn Rows.fnExactHeapPutRow.again) := by
  refine returnsInHanded_of_change_shaped (C := Tryz.checked) (s := Rows.fnExactHeapPutSpec) (conds := []) s_k1 started k2 Tryz.func6
    (ChangeSpec.witness6 (enc := enc) (C := Tryz.checked) false ⟨#[], #[.slice none 0 0, .agg #[.slice none 0 0, .int .i64 0], .int .i64 0, .int .i64 0, .agg #[.int .i64 0, .int .i64 0]], []⟩ 8 (k3 os) (k4 os) (k5 os) (k6 os H enc) (k7 os H enc)) ?_
  intro W base args ds gs before hval hW _ hw _ _
  refine law_calls (P := Tryz.prog) (tb := 4) (n := 9) (css := [aC, aH, aI, aI, aV]) s_h2 k9 rfl rfl Tryz.underlying4 (fun ds hd => ?_) k10 hval hW hw ?_
  · match ds, hd with
    | [d0, d1, d2, d3, d4], _ => rfl
  · intro vs h
    obtain ⟨l0, _, rfl, q0, b0, h⟩ := okA_C h
    obtain ⟨p1, _, rfl, q1, h⟩ := okA_H h
    obtain ⟨n2, _, rfl, q2, h⟩ := okA_I h
    obtain ⟨n3, _, rfl, q3, h⟩ := okA_I h
    obtain ⟨v4, _, rfl, h9⟩ := okA_V h
    clear h
    have h := h9
    obtain rfl := okA_nil h
    exact ct_laws_FnExactHeapPut q0 b0 q1 q2 q3 
end RFnExactHeapPut
open RFnExactHeapPut in
theorem FnExactHeapPut_holds : Rows.FnExactHeapPutSaid :=
  OpenClaim.holds_of_wide 6 Tryz.f6 rfl rfl rfl rfl rfl rfl rfl ⟨rfl, rfl, rfl, rfl, rfl⟩ rfl rfl rfl rfl rfl k12 Tryz.func6 k11 k13 k14 (fun os started H enc _ => lifted os started H enc)

end Go.Proofs.YtebbhmbngfpkaaaGreat
