/- FnExactHeapRight: the statement Rows.FnExactHeapRightSaid holds. Conditions: none. -/
import Derived.Test.YtfannbjeleonkaaGreatK09
import Derived.Test.YtfannbjeleonkaaGreatRows
set_option linter.all false
set_option linter.unusedVariables false
set_option linter.unusedSimpArgs false
set_option maxHeartbeats 2000000
set_option maxRecDepth 100000
namespace Go.Proofs.YtfannbjeleonkaaGreat
open Go Go.Ev Go.Proofs Go.RowKit Go.ChangeShapes Go.WideShapes
namespace RFnExactHeapRight
theorem k2 : Tryz.checked.prog.inits.idxOf? 11 = none := by kernel_rfl
theorem k3 (os : Os) : (World.plainHolding Tryz.checked.prog os ⟨#[], #[.slice none 0 0, .agg #[.slice none 0 0, .int .i64 0]], []⟩).variablesB Tryz.checked.prog = true := by kernel_rfl
theorem k4 (os : Os) : ((World.plainHolding Tryz.checked.prog os ⟨#[], #[.slice none 0 0, .agg #[.slice none 0 0, .int .i64 0]], []⟩).heap.toList.drop Tryz.checked.prog.globals.size).take ((begin Tryz.checked.prog (fun _ _ => 0) default).world.heap.size - Tryz.checked.prog.globals.size) = (begin Tryz.checked.prog (fun _ _ => 0) default).world.heap.toList.drop Tryz.checked.prog.globals.size := by kernel_rfl
theorem k5 (os : Os) : Input.okWideB Tryz.checked.prog (World.plainHolding Tryz.checked.prog os ⟨#[], #[.slice none 0 0, .agg #[.slice none 0 0, .int .i64 0]], []⟩) 11 ⟨#[], (⟨#[], #[.slice none 0 0, .agg #[.slice none 0 0, .int .i64 0]], []⟩ : Input).args, []⟩ = true := by kernel_rfl
theorem k6 (os : Os) (H : Type) (enc : TypeId × Value → H) : Rows.fnExactHeapRightSpec.preB enc Tryz.checked.prog Tryz.f11 [] false (World.plainHolding Tryz.checked.prog os ⟨#[], #[.slice none 0 0, .agg #[.slice none 0 0, .int .i64 0]], []⟩).memory (⟨#[], #[.slice none 0 0, .agg #[.slice none 0 0, .int .i64 0]], []⟩ : Input).args 8 = true := by kernel_rfl
theorem k7 (os : Os) (H : Type) (enc : TypeId × Value → H) : Rows.fnExactHeapRightSpec.sizedB enc Tryz.checked.prog Tryz.f11 false (World.plainHolding Tryz.checked.prog os ⟨#[], #[.slice none 0 0, .agg #[.slice none 0 0, .int .i64 0]], []⟩).memory (⟨#[], #[.slice none 0 0, .agg #[.slice none 0 0, .int .i64 0]], []⟩ : Input).args 8 = true := by kernel_rfl
theorem k9 : (Tryz.f11.params.toList.all fun t => Tryz.prog.readableRec t && decide (t < Tryz.prog.types.size)) = true := by kernel_rfl
theorem k10 : shpA Tryz.prog 9 Tryz.f11.params.toList = some [aC, aH] := by kernel_rfl
theorem h1 : Rows.fnExactHeapRightRow.wf (OpenSpec.ofChange Rows.fnExactHeapRightSpec) = true := by kernel_rfl
theorem h4 : Tryz.f11.params.all (Tryz.checked.prog.readableRec ·) = true := by kernel_rfl
theorem h5 : namedTie Tryz.checked.prog Rows.fnExactHeapRightRow.named Rows.fnExactHeapRightSpec.vars = true := by kernel_rfl
theorem h7 : (Rows.fnExactHeapRightRow.inPlace == Tryz.checked.prog.inPlace 11) = true := by kernel_rfl
theorem h8 : (Rows.fnExactHeapRightRow.unfollowed == Tryz.checked.prog.unfollowed 11) = true := by kernel_rfl
theorem h9 : (Rows.fnExactHeapRightRow.recurses == Tryz.checked.prog.recurses 11) = true := by kernel_rfl
theorem h10 : (Rows.fnExactHeapRightRow.named == Tryz.checked.prog.varsNamed 11) = true := by kernel_rfl
theorem h11 : (Rows.fnExactHeapRightRow.maps == (Tryz.f11.params.toList ++ Rows.fnExactHeapRightSpec.plain.varTypes Tryz.checked.prog).any (Tryz.checked.prog.mapsRec ·)) = true := by kernel_rfl
theorem h12 : (Rows.fnExactHeapRightRow.ifaces == (Tryz.f11.params.toList ++ Rows.fnExactHeapRightSpec.plain.varTypes Tryz.checked.prog).any (Tryz.checked.prog.ifacesRec ·)) = true := by kernel_rfl
theorem h13 : (Rows.fnExactHeapRightRow.mapsOut == Tryz.checked.prog.mapsAmong Tryz.f11.resultTypes.toList) = true := by kernel_rfl
theorem h14 : (Rows.fnExactHeapRightRow.loops == (Tryz.f11.params.toList ++ Rows.fnExactHeapRightSpec.plain.varTypes Tryz.checked.prog).any (Tryz.checked.prog.loopsFrom ·)) = true := by kernel_rfl
theorem h15 : (Rows.fnExactHeapRightRow.wideKeys == (Tryz.f11.params.toList ++ Rows.fnExactHeapRightSpec.plain.varTypes Tryz.checked.prog ++ Tryz.f11.resultTypes.toList).any (Tryz.checked.prog.wideKeysFrom ·)) = true := by kernel_rfl
theorem h16 : Rows.fnExactHeapRightSpec.vars.all (Tryz.checked.prog.varReadable ·) = true := by kernel_rfl
theorem h17 : Tryz.f11.resultTypes.all (fun t => Tryz.checked.prog.readableRec t && decide (t < Tryz.checked.prog.types.size)) = true := by kernel_rfl
theorem h18 : (Rows.fnExactHeapRightRow.ifacesOut == Tryz.f11.resultTypes.toList.any (Tryz.checked.prog.ifacesRec ·)) = true := by kernel_rfl
theorem h19 : (Rows.fnExactHeapRightRow.loopsOut == Tryz.f11.resultTypes.toList.any (Tryz.checked.prog.loopsFrom ·)) = true := by kernel_rfl
theorem h24 : Rows.fnExactHeapRightRow.domain = [] ∧ Rows.fnExactHeapRightRow.kinds = [] := by exact ⟨rfl, rfl⟩
theorem h25 : (Rows.fnExactHeapRightRow.pinned == Rows.fnExactHeapRightRow.pinnedBy) = true := by kernel_rfl
theorem h26 : (Rows.fnExactHeapRightRow.veiled == (Tryz.f11.params.toList ++ Rows.fnExactHeapRightSpec.plain.varTypes Tryz.checked.prog ++ Tryz.f11.resultTypes.toList).any (Tryz.checked.prog.veiledRec ·)) = true := by kernel_rfl
theorem h27 : Rows.fnExactHeapRightRow.veiledFits Tryz.checked.prog Tryz.f11.params.toList (Tryz.f11.params.toList ++ Rows.fnExactHeapRightSpec.plain.varTypes Tryz.checked.prog ++ Tryz.f11.resultTypes.toList) = true := by kernel_rfl
theorem k11 : joinedFacts Tryz.checked.prog 11 Tryz.f11 Rows.fnExactHeapRightSpec Rows.fnExactHeapRightRow = true := joined_of h1 s_h2 s_h3 h4 h5 s_h6 h7 h8 h9 h10 h11 h12 h13 h14 h15 h16 h17 h18 h19 s_h20 s_h21 s_h21b s_h22 s_h23 h24 h25 h26 h27
theorem k12 : Tryz.checked.prog.funcNamed Rows.fnExactHeapRightRow.func = some 11 := by kernel_rfl
theorem k13 : Tryz.f11.isInstance Tryz.checked.prog Rows.fnExactHeapRightRow.origin Rows.fnExactHeapRightRow.targs := of_decide_eq_true (by kernel_rfl)
theorem k14 : Tryz.f11.isWrapper Tryz.checked.prog Rows.fnExactHeapRightRow.wrapper Rows.fnExactHeapRightRow.mainSum := by unfold Func.isWrapper; first | (rw [if_pos (by decide +kernel)]; kernel_rfl) | (rw [if_neg (by decide +kernel)]; exact ⟨rfl, rfl⟩)
theorem lifted (os : Os) (started : os.Started) (H : Type) (enc : TypeId × Value → H) : ReturnsInHanded {} Tryz.checked os 11 .any (Rows.fnExactHeapRightSpec.pre6 enc Tryz.checked.prog Tryz.f11 [] false) (Rows.fnExactHeapRightSpec.post enc Tryz.checked.prog Tryz.f11 false Rows.fnExactHeapRightRow.fresh Rows.fnExactHeapRightRow.handsOn Rows.fnExactHeapRightRow.again) := by
  refine returnsInHanded_of_change_shaped (C := Tryz.checked) (s := Rows.fnExactHeapRightSpec) (conds := []) s_k1 started k2 Tryz.func11
    (ChangeSpec.witness6 (enc := enc) (C := Tryz.checked) false ⟨#[], #[.slice none 0 0, .agg #[.slice none 0 0, .int .i64 0]], []⟩ 8 (k3 os) (k4 os) (k5 os) (k6 os H enc) (k7 os H enc)) ?_
  intro W base args ds gs before hval hW _ hw _ _
  refine law_calls (P := Tryz.prog) (tb := 4) (n := 9) (css := [aC, aH]) s_h2 k9 rfl rfl Tryz.underlying4 (fun ds hd => ?_) k10 hval hW hw ?_
  · match ds, hd with
    | [d0, d1], _ => rfl
  · intro vs h
    obtain ⟨l0, _, rfl, q0, b0, h⟩ := okA_C h
    obtain ⟨p1, _, rfl, q1, h⟩ := okA_H h
    obtain rfl := okA_nil h
    exact ct_laws_FnExactHeapRight q0 b0 q1
end RFnExactHeapRight
open RFnExactHeapRight in
theorem FnExactHeapRight_holds : Rows.FnExactHeapRightSaid :=
  OpenClaim.holds_of_wide 11 Tryz.f11 rfl rfl rfl rfl rfl rfl rfl ⟨rfl, rfl, rfl, rfl, rfl⟩ rfl rfl rfl rfl rfl k12 Tryz.func11 k11 k13 k14 (fun os started H enc _ => lifted os started H enc)

end Go.Proofs.YtfannbjeleonkaaGreat
