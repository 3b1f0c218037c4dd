/- FnExactHeapIs: the statement Rows.FnExactHeapIsSaid holds. Conditions: none. -/
import Derived.Test.YtfannbjeleonkaaGreatK09
import Derived.Test.YtfannbjeleonkaaGreatRows
set_option linter.all false
set_option linter.unusedVariables false
set_option linter.unusedSimpArgs false
set_option maxHeartbeats 2000000
set_option maxRecDepth 100000
namespace Go.Proofs.YtfannbjeleonkaaGreat
open Go Go.Ev Go.Proofs Go.RowKit Go.ChangeShapes Go.WideShapes
namespace RFnExactHeapIs
theorem k2 : Tryz.checked.prog.inits.idxOf? 13 = none := by kernel_rfl
theorem k3 (os : Os) : (World.plainHolding Tryz.checked.prog os ⟨#[], #[.slice none 0 0, .agg #[.slice none 0 0, .int .i64 0], .int .i64 0, .string ⟨#[]⟩], []⟩).variablesB Tryz.checked.prog = true := by kernel_rfl
theorem k4 (os : Os) : ((World.plainHolding Tryz.checked.prog os ⟨#[], #[.slice none 0 0, .agg #[.slice none 0 0, .int .i64 0], .int .i64 0, .string ⟨#[]⟩], []⟩).heap.toList.drop Tryz.checked.prog.globals.size).take ((begin Tryz.checked.prog (fun _ _ => 0) default).world.heap.size - Tryz.checked.prog.globals.size) = (begin Tryz.checked.prog (fun _ _ => 0) default).world.heap.toList.drop Tryz.checked.prog.globals.size := by kernel_rfl
theorem k5 (os : Os) : Input.okWideB Tryz.checked.prog (World.plainHolding Tryz.checked.prog os ⟨#[], #[.slice none 0 0, .agg #[.slice none 0 0, .int .i64 0], .int .i64 0, .string ⟨#[]⟩], []⟩) 13 ⟨#[], (⟨#[], #[.slice none 0 0, .agg #[.slice none 0 0, .int .i64 0], .int .i64 0, .string ⟨#[]⟩], []⟩ : Input).args, []⟩ = true := by kernel_rfl
theorem k6 (os : Os) (H : Type) (enc : TypeId × Value → H) : Rows.fnExactHeapIsSpec.preB enc Tryz.checked.prog Tryz.f13 [] false (World.plainHolding Tryz.checked.prog os ⟨#[], #[.slice none 0 0, .agg #[.slice none 0 0, .int .i64 0], .int .i64 0, .string ⟨#[]⟩], []⟩).memory (⟨#[], #[.slice none 0 0, .agg #[.slice none 0 0, .int .i64 0], .int .i64 0, .string ⟨#[]⟩], []⟩ : Input).args 8 = true := by kernel_rfl
theorem k7 (os : Os) (H : Type) (enc : TypeId × Value → H) : Rows.fnExactHeapIsSpec.sizedB enc Tryz.checked.prog Tryz.f13 false (World.plainHolding Tryz.checked.prog os ⟨#[], #[.slice none 0 0, .agg #[.slice none 0 0, .int .i64 0], .int .i64 0, .string ⟨#[]⟩], []⟩).memory (⟨#[], #[.slice none 0 0, .agg #[.slice none 0 0, .int .i64 0], .int .i64 0, .string ⟨#[]⟩], []⟩ : Input).args 8 = true := by kernel_rfl
theorem k9 : (Tryz.f13.params.toList.all fun t => Tryz.prog.readableRec t && decide (t < Tryz.prog.types.size)) = true := by kernel_rfl
theorem k10 : shpA Tryz.prog 9 Tryz.f13.params.toList = some [aC, aH, aI, aS] := by kernel_rfl
theorem h1 : Rows.fnExactHeapIsRow.wf (OpenSpec.ofChange Rows.fnExactHeapIsSpec) = true := by kernel_rfl
theorem h4 : Tryz.f13.params.all (Tryz.checked.prog.readableRec ·) = true := by kernel_rfl
theorem h5 : namedTie Tryz.checked.prog Rows.fnExactHeapIsRow.named Rows.fnExactHeapIsSpec.vars = true := by kernel_rfl
theorem h7 : (Rows.fnExactHeapIsRow.inPlace == Tryz.checked.prog.inPlace 13) = true := by kernel_rfl
theorem h8 : (Rows.fnExactHeapIsRow.unfollowed == Tryz.checked.prog.unfollowed 13) = true := by kernel_rfl
theorem h9 : (Rows.fnExactHeapIsRow.recurses == Tryz.checked.prog.recurses 13) = true := by kernel_rfl
theorem h10 : (Rows.fnExactHeapIsRow.named == Tryz.checked.prog.varsNamed 13) = true := by kernel_rfl
theorem h11 : (Rows.fnExactHeapIsRow.maps == (Tryz.f13.params.toList ++ Rows.fnExactHeapIsSpec.plain.varTypes Tryz.checked.prog).any (Tryz.checked.prog.mapsRec ·)) = true := by kernel_rfl
theorem h12 : (Rows.fnExactHeapIsRow.ifaces == (Tryz.f13.params.toList ++ Rows.fnExactHeapIsSpec.plain.varTypes Tryz.checked.prog).any (Tryz.checked.prog.ifacesRec ·)) = true := by kernel_rfl
theorem h13 : (Rows.fnExactHeapIsRow.mapsOut == Tryz.checked.prog.mapsAmong Tryz.f13.resultTypes.toList) = true := by kernel_rfl
theorem h14 : (Rows.fnExactHeapIsRow.loops == (Tryz.f13.params.toList ++ Rows.fnExactHeapIsSpec.plain.varTypes Tryz.checked.prog).any (Tryz.checked.prog.loopsFrom ·)) = true := by kernel_rfl
theorem h15 : (Rows.fnExactHeapIsRow.wideKeys == (Tryz.f13.params.toList ++ Rows.fnExactHeapIsSpec.plain.varTypes Tryz.checked.prog ++ Tryz.f13.resultTypes.toList).any (Tryz.checked.prog.wideKeysFrom ·)) = true := by kernel_rfl
theorem h16 : Rows.fnExactHeapIsSpec.vars.all (Tryz.checked.prog.varReadable ·) = true := by kernel_rfl
theorem h17 : Tryz.f13.resultTypes.all (fun t => Tryz.checked.prog.readableRec t && decide (t < Tryz.checked.prog.types.size)) = true := by kernel_rfl
theorem h18 : (Rows.fnExactHeapIsRow.ifacesOut == Tryz.f13.resultTypes.toList.any (Tryz.checked.prog.ifacesRec ·)) = true := by kernel_rfl
theorem h19 : (Rows.fnExactHeapIsRow.loopsOut == Tryz.f13.resultTypes.toList.any (Tryz.checked.prog.loopsFrom ·)) = true := by kernel_rfl
theorem h24 : Rows.fnExactHeapIsRow.domain = [] ∧ Rows.fnExactHeapIsRow.kinds = [] := by exact ⟨rfl, rfl⟩
theorem h25 : (Rows.fnExactHeapIsRow.pinned == Rows.fnExactHeapIsRow.pinnedBy) = true := by kernel_rfl
theorem h26 : (Rows.fnExactHeapIsRow.veiled == (Tryz.f13.params.toList ++ Rows.fnExactHeapIsSpec.plain.varTypes Tryz.checked.prog ++ Tryz.f13.resultTypes.toList).any (Tryz.checked.prog.veiledRec ·)) = true := by kernel_rfl
theorem h27 : Rows.fnExactHeapIsRow.veiledFits Tryz.checked.prog Tryz.f13.params.toList (Tryz.f13.params.toList ++ Rows.fnExactHeapIsSpec.plain.varTypes Tryz.checked.prog ++ Tryz.f13.resultTypes.toList) = true := by kernel_rfl
theorem k11 : joinedFacts Tryz.checked.prog 13 Tryz.f13 Rows.fnExactHeapIsSpec Rows.fnExactHeapIsRow = true := joined_of h1 s_h2 s_h3 h4 h5 s_h6 h7 h8 h9 h10 h11 h12 h13 h14 h15 h16 h17 h18 h19 s_h20 s_h21 s_h21b s_h22 s_h23 h24 h25 h26 h27
theorem k12 : Tryz.checked.prog.funcNamed Rows.fnExactHeapIsRow.func = some 13 := by kernel_rfl
theorem k13 : Tryz.f13.isInstance Tryz.checked.prog Rows.fnExactHeapIsRow.origin Rows.fnExactHeapIsRow.targs := of_decide_eq_true (by kernel_rfl)
theorem k14 : Tryz.f13.isWrapper Tryz.checked.prog Rows.fnExactHeapIsRow.wrapper Rows.fnExactHeapIsRow.mainSum := by unfold Func.isWrapper; first | (rw [if_pos (by decide +kernel)]; kernel_rfl) | (rw [if_neg (by decide +kernel)]; exact ⟨rfl, rfl⟩)
theorem lifted (os : Os) (started : os.Started) (H : Type) (enc : TypeId × Value → H) : ReturnsInHanded {} Tryz.checked os 13 .any (Rows.fnExactHeapIsSpec.pre6 enc Tryz.checked.prog Tryz.f13 [] false) (Rows.fnExactHeapIsSpec.post enc Tryz.checked.prog Tryz.f13 false Rows.fnExactHeapIsRow.fresh Rows.fnExactHeapIsRow.handsOn Rows.fnExactHeapIsRow.again) := by
  refine returnsInHanded_of_change_shaped (C := Tryz.checked) (s := Rows.fnExactHeapIsSpec) (conds := []) s_k1 started k2 Tryz.func13
    (ChangeSpec.witness6 (enc := enc) (C := Tryz.checked) false ⟨#[], #[.slice none 0 0, .agg #[.slice none 0 0, .int .i64 0], .int .i64 0, .string ⟨#[]⟩], []⟩ 8 (k3 os) (k4 os) (k5 os) (k6 os H enc) (k7 os H enc)) ?_
  intro W base args ds gs before hval hW _ hw _ _
  refine law_calls (P := Tryz.prog) (tb := 4) (n := 9) (css := [aC, aH, aI, aS]) s_h2 k9 rfl rfl Tryz.underlying4 (fun ds hd => ?_) k10 hval hW hw ?_
  · match ds, hd with
    | [d0, d1, d2, d3], _ => rfl
  · intro vs h
    obtain ⟨l0, _, rfl, q0, b0, h⟩ := okA_C h
    obtain ⟨p1, _, rfl, q1, h⟩ := okA_H h
    obtain ⟨n2, _, rfl, q2, h⟩ := okA_I h
    obtain ⟨l3, _, rfl, q3, h⟩ := okA_S h
    obtain rfl := okA_nil h
    exact ct_laws_FnExactHeapIs q0 b0 q1 q2 q3
end RFnExactHeapIs
open RFnExactHeapIs in
theorem FnExactHeapIs_holds : Rows.FnExactHeapIsSaid :=
  OpenClaim.holds_of_wide 13 Tryz.f13 rfl rfl rfl rfl rfl rfl rfl ⟨rfl, rfl, rfl, rfl, rfl⟩ rfl rfl rfl rfl rfl k12 Tryz.func13 k11 k13 k14 (fun os started H enc _ => lifted os started H enc)

end Go.Proofs.YtfannbjeleonkaaGreat
