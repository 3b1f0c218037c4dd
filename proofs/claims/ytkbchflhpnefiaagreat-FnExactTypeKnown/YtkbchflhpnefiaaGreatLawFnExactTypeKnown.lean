/- FnExactTypeKnown: the statement Rows.FnExactTypeKnownSaid holds. Conditions: none. -/
import Derived.Test.YtkbchflhpnefiaaGreatK09
import Derived.Test.YtkbchflhpnefiaaGreatRows
set_option linter.all false
set_option linter.unusedVariables false
set_option linter.unusedSimpArgs false
namespace Go.Proofs.YtkbchflhpnefiaaGreat
open Go Go.Ev Go.Proofs Go.RowKit Go.ChangeShapes Go.WideShapes

set_option maxHeartbeats 2000000 in
set_option maxRecDepth 100000 in
theorem FnExactTypeKnown_holds : Rows.FnExactTypeKnownSaid :=
  OpenClaim.holds_of_wide 8 Tryz.f8 rfl rfl rfl rfl rfl rfl rfl ⟨rfl, rfl, rfl, rfl, rfl⟩ rfl rfl rfl rfl rfl (by kernel_rfl) Tryz.func8 (by kernel_rfl)
    (of_decide_eq_true (by kernel_rfl)) (by unfold Func.isWrapper; first | (rw [if_pos (by decide +kernel)]; kernel_rfl) | (rw [if_neg (by decide +kernel)]; exact ⟨rfl, rfl⟩))
    (fun os started H enc _ => by
      refine returnsInHanded_of_change_shaped (C := Tryz.checked) (s := Rows.fnExactTypeKnownSpec) (conds := []) (by kernel_rfl) started (by kernel_rfl) Tryz.func8
        (ChangeSpec.witness6 (enc := enc) (C := Tryz.checked) false ⟨#[], #[.slice none 0 0, .agg #[.int .i64 0, .string ⟨#[]⟩, .int .i64 0]], []⟩ 8 (by kernel_rfl) (by kernel_rfl) (by kernel_rfl) (by kernel_rfl)) ?_
      intro W base args ds gs before hval hW _ hw _ _
      refine law_calls (P := Tryz.prog) (tb := 4) (n := 9) (css := [aC, aT]) (by kernel_rfl) (by kernel_rfl) rfl (by kernel_rfl) (by kernel_rfl) (fun ds hd => ?_) (by kernel_rfl) hval hW hw ?_
      · match ds, hd with
        | [d0, d1], _ => rfl
      · intro vs h
        obtain ⟨l0, _, rfl, q0, b0, h⟩ := okA_C h
        obtain ⟨t1, _, rfl, q1, h⟩ := okA_T h
        obtain rfl := okA_nil h
        exact ct_laws_FnExactTypeKnown q0 b0 q1)

end Go.Proofs.YtkbchflhpnefiaaGreat
