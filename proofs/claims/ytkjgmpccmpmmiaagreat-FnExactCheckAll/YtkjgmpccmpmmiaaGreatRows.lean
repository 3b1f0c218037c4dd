/-
  No cell of these rows narrows 'for every input' (looked for: loops, veiled, ifaces, maps, wideKeys, modest, calm, conditions, laid).
  DERIVED. THE GIVEN ROWS OF THIS SEAT. 7 by the template 'for every input the law returns true; each argument reads behind the call as it read before'; 0 by the template 'total and deterministic' (their statements: YtkjgmpccmpmmiaaGreatTotals.lean).
  GIVEN WITH THE SEED: the statements are not yours to turn. If you find one false, say at which input.
  Laid BY PROGRAM, IN A SANDBOX (cutbox-rows.mjs): the forced cells as the released guide's own fill.sh prints them over the translation e4be13f550740dc3… (all of the seat's roots in one cut). By AI agents, Wed Nov 11 2026. No macro, syntax, notation, axiom, sorry.
-/
import Derived.Test.YtkjgmpccmpmmiaaGreatChecked
import GoSem.Claim
import GoSem.ClaimJoined
import GoSem.ClaimMapViews
import Derived.JoinedTies
import Derived.KernelRfl
namespace Go.Proofs.YtkjgmpccmpmmiaaGreat
/- THE CELL 'sum', in the pinned program and in every row, IS THE sha256 OF THE DUMP (.gsa) THAT YtkjgmpccmpmmiaaGreatProg.lean LOADS. Nothing in Lean hashes anything: it is a label: what it is worth is what the hold of that sum in a sandbox is worth. -/
noncomputable def Tryz.pinned : Pinned := { name := "ytkjgmpccmpmmiaagreat", sum := "e4be13f550740dc3d296e8e077686d2e1c63b4dd2f289386afd83bc7099ef67b", checked := Tryz.checked }
namespace Rows
def none {H : Type} : Left H := { results := [], args := [] }

/-- 'laws.FnExactFlowEffect': WHATEVER THE INPUT: true; the input reads as it did. -/
def fnExactFlowEffectSpec : ChangeSpec := { name := "fnExactFlowEffect", fn := fun _ => fun
  | [d1, d2, d3, d4, d5] => { results := [.lit (.bool true)], args := [d1, d2, d3, d4, d5] }
  | _ => none }
def fnExactFlowEffectRow : OpenClaim := { program := "ytkjgmpccmpmmiaagreat", sum := "e4be13f550740dc3d296e8e077686d2e1c63b4dd2f289386afd83bc7099ef67b", func := "loop.example/g00175/laws.FnExactFlowEffect", spec := "fnExactFlowEffect", inPlace := ["internal/bytealg.IndexByteString"], unfollowed := true, recurses := true, apart := false }
def FnExactFlowEffectSaid : Prop := fnExactFlowEffectRow.holds Tryz.pinned (OpenSpec.ofChange fnExactFlowEffectSpec)

/-- ITS FALSE NEIGHBOUR: 'it returns false'. Refute it at one input. -/
def fnExactFlowEffectWrong : ChangeSpec := { name := "fnExactFlowEffect", fn := fun _ => fun
  | [d1, d2, d3, d4, d5] => { results := [.lit (.bool false)], args := [d1, d2, d3, d4, d5] }
  | _ => none }
def FnExactFlowEffectWrongFalsely : Prop := fnExactFlowEffectRow.holds Tryz.pinned (OpenSpec.ofChange fnExactFlowEffectWrong)

/-- 'laws.FnExactCheckAll': WHATEVER THE INPUT: true; the input reads as it did. -/
def fnExactCheckAllSpec : ChangeSpec := { name := "fnExactCheckAll", fn := fun _ => fun
  | [d] => { results := [.lit (.bool true)], args := [d] }
  | _ => none }
def fnExactCheckAllRow : OpenClaim := { program := "ytkjgmpccmpmmiaagreat", sum := "e4be13f550740dc3d296e8e077686d2e1c63b4dd2f289386afd83bc7099ef67b", func := "loop.example/g00175/laws.FnExactCheckAll", spec := "fnExactCheckAll", inPlace := ["internal/bytealg.IndexByteString"], unfollowed := true, recurses := true, apart := false }
def FnExactCheckAllSaid : Prop := fnExactCheckAllRow.holds Tryz.pinned (OpenSpec.ofChange fnExactCheckAllSpec)

/-- ITS FALSE NEIGHBOUR: 'it returns false'. Refute it at one input. -/
def fnExactCheckAllWrong : ChangeSpec := { name := "fnExactCheckAll", fn := fun _ => fun
  | [d] => { results := [.lit (.bool false)], args := [d] }
  | _ => none }
def FnExactCheckAllWrongFalsely : Prop := fnExactCheckAllRow.holds Tryz.pinned (OpenSpec.ofChange fnExactCheckAllWrong)

/-- 'laws.FnCheckAll': WHATEVER THE INPUT: true; the input reads as it did. -/
def fnCheckAllSpec : ChangeSpec := { name := "fnCheckAll", fn := fun _ => fun
  | [d] => { results := [.lit (.bool true)], args := [d] }
  | _ => none }
def fnCheckAllRow : OpenClaim := { program := "ytkjgmpccmpmmiaagreat", sum := "e4be13f550740dc3d296e8e077686d2e1c63b4dd2f289386afd83bc7099ef67b", func := "loop.example/g00175/laws.FnCheckAll", spec := "fnCheckAll", inPlace := ["internal/bytealg.IndexByteString"], unfollowed := true, recurses := true, apart := false }
def FnCheckAllSaid : Prop := fnCheckAllRow.holds Tryz.pinned (OpenSpec.ofChange fnCheckAllSpec)

/-- ITS FALSE NEIGHBOUR: 'it returns false'. Refute it at one input. -/
def fnCheckAllWrong : ChangeSpec := { name := "fnCheckAll", fn := fun _ => fun
  | [d] => { results := [.lit (.bool false)], args := [d] }
  | _ => none }
def FnCheckAllWrongFalsely : Prop := fnCheckAllRow.holds Tryz.pinned (OpenSpec.ofChange fnCheckAllWrong)

/-- 'laws.FnFlow': WHATEVER THE INPUT: true; the input reads as it did. -/
def fnFlowSpec : ChangeSpec := { name := "fnFlow", fn := fun _ => fun
  | [d] => { results := [.lit (.bool true)], args := [d] }
  | _ => none }
def fnFlowRow : OpenClaim := { program := "ytkjgmpccmpmmiaagreat", sum := "e4be13f550740dc3d296e8e077686d2e1c63b4dd2f289386afd83bc7099ef67b", func := "loop.example/g00175/laws.FnFlow", spec := "fnFlow", inPlace := ["internal/bytealg.IndexByteString"], unfollowed := true, recurses := true, apart := false }
def FnFlowSaid : Prop := fnFlowRow.holds Tryz.pinned (OpenSpec.ofChange fnFlowSpec)

/-- ITS FALSE NEIGHBOUR: 'it returns false'. Refute it at one input. -/
def fnFlowWrong : ChangeSpec := { name := "fnFlow", fn := fun _ => fun
  | [d] => { results := [.lit (.bool false)], args := [d] }
  | _ => none }
def FnFlowWrongFalsely : Prop := fnFlowRow.holds Tryz.pinned (OpenSpec.ofChange fnFlowWrong)

/-- 'laws.FnExactTypingRight': WHATEVER THE INPUT: true; the input reads as it did. -/
def fnExactTypingRightSpec : ChangeSpec := { name := "fnExactTypingRight", fn := fun _ => fun
  | [d1, d2, d3, d4, d5] => { results := [.lit (.bool true)], args := [d1, d2, d3, d4, d5] }
  | _ => none }
def fnExactTypingRightRow : OpenClaim := { program := "ytkjgmpccmpmmiaagreat", sum := "e4be13f550740dc3d296e8e077686d2e1c63b4dd2f289386afd83bc7099ef67b", func := "loop.example/g00175/laws.FnExactTypingRight", spec := "fnExactTypingRight", inPlace := ["internal/bytealg.IndexByteString"], unfollowed := true, recurses := true, apart := false }
def FnExactTypingRightSaid : Prop := fnExactTypingRightRow.holds Tryz.pinned (OpenSpec.ofChange fnExactTypingRightSpec)

/-- ITS FALSE NEIGHBOUR: 'it returns false'. Refute it at one input. -/
def fnExactTypingRightWrong : ChangeSpec := { name := "fnExactTypingRight", fn := fun _ => fun
  | [d1, d2, d3, d4, d5] => { results := [.lit (.bool false)], args := [d1, d2, d3, d4, d5] }
  | _ => none }
def FnExactTypingRightWrongFalsely : Prop := fnExactTypingRightRow.holds Tryz.pinned (OpenSpec.ofChange fnExactTypingRightWrong)

/-- 'laws.FnExactFlow': WHATEVER THE INPUT: true; the input reads as it did. -/
def fnExactFlowSpec : ChangeSpec := { name := "fnExactFlow", fn := fun _ => fun
  | [d1, d2, d3, d4, d5] => { results := [.lit (.bool true)], args := [d1, d2, d3, d4, d5] }
  | _ => none }
def fnExactFlowRow : OpenClaim := { program := "ytkjgmpccmpmmiaagreat", sum := "e4be13f550740dc3d296e8e077686d2e1c63b4dd2f289386afd83bc7099ef67b", func := "loop.example/g00175/laws.FnExactFlow", spec := "fnExactFlow", inPlace := ["internal/bytealg.IndexByteString"], unfollowed := true, recurses := true, apart := false }
def FnExactFlowSaid : Prop := fnExactFlowRow.holds Tryz.pinned (OpenSpec.ofChange fnExactFlowSpec)

/-- ITS FALSE NEIGHBOUR: 'it returns false'. Refute it at one input. -/
def fnExactFlowWrong : ChangeSpec := { name := "fnExactFlow", fn := fun _ => fun
  | [d1, d2, d3, d4, d5] => { results := [.lit (.bool false)], args := [d1, d2, d3, d4, d5] }
  | _ => none }
def FnExactFlowWrongFalsely : Prop := fnExactFlowRow.holds Tryz.pinned (OpenSpec.ofChange fnExactFlowWrong)

/-- 'laws.FnExactCheck': WHATEVER THE INPUT: true; the input reads as it did. -/
def fnExactCheckSpec : ChangeSpec := { name := "fnExactCheck", fn := fun _ => fun
  | [d1, d2, d3] => { results := [.lit (.bool true)], args := [d1, d2, d3] }
  | _ => none }
def fnExactCheckRow : OpenClaim := { program := "ytkjgmpccmpmmiaagreat", sum := "e4be13f550740dc3d296e8e077686d2e1c63b4dd2f289386afd83bc7099ef67b", func := "loop.example/g00175/laws.FnExactCheck", spec := "fnExactCheck", inPlace := ["internal/bytealg.IndexByteString"], unfollowed := true, recurses := true, apart := false }
def FnExactCheckSaid : Prop := fnExactCheckRow.holds Tryz.pinned (OpenSpec.ofChange fnExactCheckSpec)

/-- ITS FALSE NEIGHBOUR: 'it returns false'. Refute it at one input. -/
def fnExactCheckWrong : ChangeSpec := { name := "fnExactCheck", fn := fun _ => fun
  | [d1, d2, d3] => { results := [.lit (.bool false)], args := [d1, d2, d3] }
  | _ => none }
def FnExactCheckWrongFalsely : Prop := fnExactCheckRow.holds Tryz.pinned (OpenSpec.ofChange fnExactCheckWrong)

/- THE SECOND FORM. 'bulk': how many values and letters a reading holds, each counted each time it is reached (what is shared counts as often as it is met; a slice's spare places count too). A statement '..UptoSaid' is the law's where the arguments, and the package variables that the reading takes, are together of bulk at most 1048576: NARROWER than '..Said'. Prove '..Said' where nothing that the law and all that it calls make is longer than what came in: it says more and counts as full. Else prove '..UptoSaid'. A law counts once. -/
mutual
def uptoBulk {H : Type} : DataW H → Nat
  | .lit (.string bytes) => bytes.length + 1
  | .lit _ => 1
  | .nil => 1
  | .ptr d => uptoBulk d + 1
  | .slice elems spare => uptoBulkAll elems + uptoBulkAll spare + 1
  | .agg parts => uptoBulkAll parts + 1
  | .iface _ d => uptoBulk d + 1
  | .map entries => uptoBulkEntries entries + 1
  | .held _ => 1
def uptoBulkAll {H : Type} : List (DataW H) → Nat
  | [] => 0
  | d :: r => uptoBulk d + uptoBulkAll r
def uptoBulkEntries {H : Type} : List (Lit × DataW H) → Nat
  | [] => 0
  | x :: r => uptoBulkEntry x + uptoBulkEntries r
def uptoBulkEntry {H : Type} : Lit × DataW H → Nat
  | (.string bytes, d) => bytes.length + uptoBulk d + 1
  | (_, d) => uptoBulk d + 1
 end
def uptoSmall : (H : Type) → List (DataW H) → Bool := fun _ ds => decide (uptoBulkAll ds ≤ 1048576)
def OpenSpec.upto (s : _root_.Go.ChangeSpec) : _root_.Go.OpenSpec := { _root_.Go.OpenSpec.ofChange s with cond := some uptoSmall }

/-- 'laws.FnExactFlowEffect', WHERE WHAT IT READS IS OF BULK AT MOST 1048576: true; the input reads as it did. -/
def fnExactFlowEffectUptoRow : OpenClaim := { program := "ytkjgmpccmpmmiaagreat", sum := "e4be13f550740dc3d296e8e077686d2e1c63b4dd2f289386afd83bc7099ef67b", func := "loop.example/g00175/laws.FnExactFlowEffect", spec := "fnExactFlowEffect", inPlace := ["internal/bytealg.IndexByteString"], unfollowed := true, recurses := true, apart := false, narrowed := true }
def FnExactFlowEffectUptoSaid : Prop := fnExactFlowEffectUptoRow.holds Tryz.pinned (OpenSpec.upto fnExactFlowEffectSpec)

/-- 'laws.FnExactCheckAll', WHERE WHAT IT READS IS OF BULK AT MOST 1048576: true; the input reads as it did. -/
def fnExactCheckAllUptoRow : OpenClaim := { program := "ytkjgmpccmpmmiaagreat", sum := "e4be13f550740dc3d296e8e077686d2e1c63b4dd2f289386afd83bc7099ef67b", func := "loop.example/g00175/laws.FnExactCheckAll", spec := "fnExactCheckAll", inPlace := ["internal/bytealg.IndexByteString"], unfollowed := true, recurses := true, apart := false, narrowed := true }
def FnExactCheckAllUptoSaid : Prop := fnExactCheckAllUptoRow.holds Tryz.pinned (OpenSpec.upto fnExactCheckAllSpec)

/-- 'laws.FnCheckAll', WHERE WHAT IT READS IS OF BULK AT MOST 1048576: true; the input reads as it did. -/
def fnCheckAllUptoRow : OpenClaim := { program := "ytkjgmpccmpmmiaagreat", sum := "e4be13f550740dc3d296e8e077686d2e1c63b4dd2f289386afd83bc7099ef67b", func := "loop.example/g00175/laws.FnCheckAll", spec := "fnCheckAll", inPlace := ["internal/bytealg.IndexByteString"], unfollowed := true, recurses := true, apart := false, narrowed := true }
def FnCheckAllUptoSaid : Prop := fnCheckAllUptoRow.holds Tryz.pinned (OpenSpec.upto fnCheckAllSpec)

/-- 'laws.FnFlow', WHERE WHAT IT READS IS OF BULK AT MOST 1048576: true; the input reads as it did. -/
def fnFlowUptoRow : OpenClaim := { program := "ytkjgmpccmpmmiaagreat", sum := "e4be13f550740dc3d296e8e077686d2e1c63b4dd2f289386afd83bc7099ef67b", func := "loop.example/g00175/laws.FnFlow", spec := "fnFlow", inPlace := ["internal/bytealg.IndexByteString"], unfollowed := true, recurses := true, apart := false, narrowed := true }
def FnFlowUptoSaid : Prop := fnFlowUptoRow.holds Tryz.pinned (OpenSpec.upto fnFlowSpec)

/-- 'laws.FnExactTypingRight', WHERE WHAT IT READS IS OF BULK AT MOST 1048576: true; the input reads as it did. -/
def fnExactTypingRightUptoRow : OpenClaim := { program := "ytkjgmpccmpmmiaagreat", sum := "e4be13f550740dc3d296e8e077686d2e1c63b4dd2f289386afd83bc7099ef67b", func := "loop.example/g00175/laws.FnExactTypingRight", spec := "fnExactTypingRight", inPlace := ["internal/bytealg.IndexByteString"], unfollowed := true, recurses := true, apart := false, narrowed := true }
def FnExactTypingRightUptoSaid : Prop := fnExactTypingRightUptoRow.holds Tryz.pinned (OpenSpec.upto fnExactTypingRightSpec)

/-- 'laws.FnExactFlow', WHERE WHAT IT READS IS OF BULK AT MOST 1048576: true; the input reads as it did. -/
def fnExactFlowUptoRow : OpenClaim := { program := "ytkjgmpccmpmmiaagreat", sum := "e4be13f550740dc3d296e8e077686d2e1c63b4dd2f289386afd83bc7099ef67b", func := "loop.example/g00175/laws.FnExactFlow", spec := "fnExactFlow", inPlace := ["internal/bytealg.IndexByteString"], unfollowed := true, recurses := true, apart := false, narrowed := true }
def FnExactFlowUptoSaid : Prop := fnExactFlowUptoRow.holds Tryz.pinned (OpenSpec.upto fnExactFlowSpec)

/-- 'laws.FnExactCheck', WHERE WHAT IT READS IS OF BULK AT MOST 1048576: true; the input reads as it did. -/
def fnExactCheckUptoRow : OpenClaim := { program := "ytkjgmpccmpmmiaagreat", sum := "e4be13f550740dc3d296e8e077686d2e1c63b4dd2f289386afd83bc7099ef67b", func := "loop.example/g00175/laws.FnExactCheck", spec := "fnExactCheck", inPlace := ["internal/bytealg.IndexByteString"], unfollowed := true, recurses := true, apart := false, narrowed := true }
def FnExactCheckUptoSaid : Prop := fnExactCheckUptoRow.holds Tryz.pinned (OpenSpec.upto fnExactCheckSpec)

end Rows
end Go.Proofs.YtkjgmpccmpmmiaaGreat
