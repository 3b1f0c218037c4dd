/- FnExactIsSub: the statement Rows.FnExactIsSubSaid holds. Conditions: none. -/
import Derived.Test.YtkbchflhpnefiaaGreatK09
import Derived.Test.YtkbchflhpnefiaaGreatRows
set_option linter.all false
set_option linter.unusedVariables false
set_option linter.unusedSimpArgs false
namespace Go.Proofs.YtkbchflhpnefiaaGreat
open Go Go.Ev Go.Proofs Go.RowKit Go.ChangeShapes Go.WideShapes

set_option maxHeartbeats 2000000 in
set_option maxRecDepth 100000 in
theorem FnExactIsSub_holds : Rows.FnExactIsSubSaid :=
  OpenClaim.holds_of_wide 7 Tryz.f7 rfl rfl rfl rfl rfl rfl rfl ⟨rfl, rfl, rfl, rfl, rfl⟩ rfl rfl rfl rfl rfl (by kernel_rfl) Tryz.func7 (by kernel_rfl)
    (of_decide_eq_true (by kernel_rfl)) (by unfold Func.isWrapper; first | (rw [if_pos (by decide +kernel)]; kernel_rfl) | (rw [if_neg (by decide +kernel)]; exact ⟨rfl, rfl⟩))
    (fun os started H enc _ => by
      refine returnsInHanded_of_change_shaped (C := Tryz.checked) (s := Rows.fnExactIsSubSpec) (conds := []) (by kernel_rfl) started (by kernel_rfl) Tryz.func7
        (ChangeSpec.witness6 (enc := enc) (C := Tryz.checked) false ⟨#[], #[.slice none 0 0, .string ⟨#[]⟩, .string ⟨#[]⟩], []⟩ 8 (by kernel_rfl) (by kernel_rfl) (by kernel_rfl) (by kernel_rfl)) ?_
      intro W base args ds gs before hval hW _ hw _ _
      refine law_calls (P := Tryz.prog) (tb := 4) (n := 9) (css := [aC, aS, aS]) (by kernel_rfl) (by kernel_rfl) rfl (by kernel_rfl) (by kernel_rfl) (fun ds hd => ?_) (by kernel_rfl) hval hW hw ?_
      · match ds, hd with
        | [d0, d1, d2], _ => rfl
      · intro vs h
        obtain ⟨l0, _, rfl, q0, b0, h⟩ := okA_C h
        obtain ⟨l1, _, rfl, q1, h⟩ := okA_S h
        obtain ⟨l2, _, rfl, q2, h⟩ := okA_S h
        obtain rfl := okA_nil h
        exact ct_laws_FnExactIsSub q0 b0 q1 q2)

end Go.Proofs.YtkbchflhpnefiaaGreat
