/-
  No cell of these rows narrows 'for every input' (looked for: loops, veiled, ifaces, maps, wideKeys, modest, calm, conditions, laid).
  DERIVED. THE GIVEN ROWS OF THIS SEAT. 6 by the template 'for every input the law returns true; each argument reads behind the call as it read before'; 0 by the template 'total and deterministic' (their statements: YtkbchflhpnefiaaGreatTotals.lean).
  GIVEN WITH THE SEED: the statements are not yours to turn. If you find one false, say at which input.
  Laid BY PROGRAM, IN A SANDBOX (cutbox-rows.mjs): the forced cells as the released guide's own fill.sh prints them over the translation 4880f02627bb99aa… (all of the seat's roots in one cut). By AI agents, Wed Nov 11 2026. No macro, syntax, notation, axiom, sorry.
-/
import Derived.Test.YtkbchflhpnefiaaGreatChecked
import GoSem.Claim
import GoSem.ClaimJoined
import GoSem.ClaimMapViews
import Derived.JoinedTies
import Derived.KernelRfl
namespace Go.Proofs.YtkbchflhpnefiaaGreat
/- THE CELL 'sum', in the pinned program and in every row, IS THE sha256 OF THE DUMP (.gsa) THAT YtkbchflhpnefiaaGreatProg.lean LOADS. Nothing in Lean hashes anything: it is a label: what it is worth is what the hold of that sum in a sandbox is worth. -/
noncomputable def Tryz.pinned : Pinned := { name := "ytkbchflhpnefiaagreat", sum := "4880f02627bb99aafeb22e46ef40c00d6ccb9a49c7c693671ddb8c4e50d1c7e2", checked := Tryz.checked }
namespace Rows
def none {H : Type} : Left H := { results := [], args := [] }

/-- 'laws.FnLub': WHATEVER THE INPUT: true; the input reads as it did. -/
def fnLubSpec : ChangeSpec := { name := "fnLub", fn := fun _ => fun
  | [d1, d2] => { results := [.lit (.bool true)], args := [d1, d2] }
  | _ => none }
def fnLubRow : OpenClaim := { program := "ytkbchflhpnefiaagreat", sum := "4880f02627bb99aafeb22e46ef40c00d6ccb9a49c7c693671ddb8c4e50d1c7e2", func := "loop.example/g00175/laws.FnLub", spec := "fnLub", inPlace := ["internal/bytealg.IndexByteString"], unfollowed := true, recurses := true, apart := false }
def FnLubSaid : Prop := fnLubRow.holds Tryz.pinned (OpenSpec.ofChange fnLubSpec)

/-- ITS FALSE NEIGHBOUR: 'it returns false'. Refute it at one input. -/
def fnLubWrong : ChangeSpec := { name := "fnLub", fn := fun _ => fun
  | [d1, d2] => { results := [.lit (.bool false)], args := [d1, d2] }
  | _ => none }
def FnLubWrongFalsely : Prop := fnLubRow.holds Tryz.pinned (OpenSpec.ofChange fnLubWrong)

/-- 'laws.FnExactKnown': WHATEVER THE INPUT: true; the input reads as it did. -/
def fnExactKnownSpec : ChangeSpec := { name := "fnExactKnown", fn := fun _ => fun
  | [d1, d2] => { results := [.lit (.bool true)], args := [d1, d2] }
  | _ => none }
def fnExactKnownRow : OpenClaim := { program := "ytkbchflhpnefiaagreat", sum := "4880f02627bb99aafeb22e46ef40c00d6ccb9a49c7c693671ddb8c4e50d1c7e2", func := "loop.example/g00175/laws.FnExactKnown", spec := "fnExactKnown", inPlace := ["internal/bytealg.IndexByteString"], unfollowed := true, recurses := true, apart := false }
def FnExactKnownSaid : Prop := fnExactKnownRow.holds Tryz.pinned (OpenSpec.ofChange fnExactKnownSpec)

/-- ITS FALSE NEIGHBOUR: 'it returns false'. Refute it at one input. -/
def fnExactKnownWrong : ChangeSpec := { name := "fnExactKnown", fn := fun _ => fun
  | [d1, d2] => { results := [.lit (.bool false)], args := [d1, d2] }
  | _ => none }
def FnExactKnownWrongFalsely : Prop := fnExactKnownRow.holds Tryz.pinned (OpenSpec.ofChange fnExactKnownWrong)

/-- 'laws.FnExactWorldCheck': WHATEVER THE INPUT: true; the input reads as it did. -/
def fnExactWorldCheckSpec : ChangeSpec := { name := "fnExactWorldCheck", fn := fun _ => fun
  | [d] => { results := [.lit (.bool true)], args := [d] }
  | _ => none }
def fnExactWorldCheckRow : OpenClaim := { program := "ytkbchflhpnefiaagreat", sum := "4880f02627bb99aafeb22e46ef40c00d6ccb9a49c7c693671ddb8c4e50d1c7e2", func := "loop.example/g00175/laws.FnExactWorldCheck", spec := "fnExactWorldCheck", inPlace := ["internal/bytealg.IndexByteString"], unfollowed := true, recurses := true, apart := false }
def FnExactWorldCheckSaid : Prop := fnExactWorldCheckRow.holds Tryz.pinned (OpenSpec.ofChange fnExactWorldCheckSpec)

/-- ITS FALSE NEIGHBOUR: 'it returns false'. Refute it at one input. -/
def fnExactWorldCheckWrong : ChangeSpec := { name := "fnExactWorldCheck", fn := fun _ => fun
  | [d] => { results := [.lit (.bool false)], args := [d] }
  | _ => none }
def FnExactWorldCheckWrongFalsely : Prop := fnExactWorldCheckRow.holds Tryz.pinned (OpenSpec.ofChange fnExactWorldCheckWrong)

/-- 'laws.FnExactSuperOf': WHATEVER THE INPUT: true; the input reads as it did. -/
def fnExactSuperOfSpec : ChangeSpec := { name := "fnExactSuperOf", fn := fun _ => fun
  | [d1, d2] => { results := [.lit (.bool true)], args := [d1, d2] }
  | _ => none }
def fnExactSuperOfRow : OpenClaim := { program := "ytkbchflhpnefiaagreat", sum := "4880f02627bb99aafeb22e46ef40c00d6ccb9a49c7c693671ddb8c4e50d1c7e2", func := "loop.example/g00175/laws.FnExactSuperOf", spec := "fnExactSuperOf", inPlace := ["internal/bytealg.IndexByteString"], unfollowed := true, recurses := true, apart := false }
def FnExactSuperOfSaid : Prop := fnExactSuperOfRow.holds Tryz.pinned (OpenSpec.ofChange fnExactSuperOfSpec)

/-- ITS FALSE NEIGHBOUR: 'it returns false'. Refute it at one input. -/
def fnExactSuperOfWrong : ChangeSpec := { name := "fnExactSuperOf", fn := fun _ => fun
  | [d1, d2] => { results := [.lit (.bool false)], args := [d1, d2] }
  | _ => none }
def FnExactSuperOfWrongFalsely : Prop := fnExactSuperOfRow.holds Tryz.pinned (OpenSpec.ofChange fnExactSuperOfWrong)

/-- 'laws.FnExactIsSub': WHATEVER THE INPUT: true; the input reads as it did. -/
def fnExactIsSubSpec : ChangeSpec := { name := "fnExactIsSub", fn := fun _ => fun
  | [d1, d2, d3] => { results := [.lit (.bool true)], args := [d1, d2, d3] }
  | _ => none }
def fnExactIsSubRow : OpenClaim := { program := "ytkbchflhpnefiaagreat", sum := "4880f02627bb99aafeb22e46ef40c00d6ccb9a49c7c693671ddb8c4e50d1c7e2", func := "loop.example/g00175/laws.FnExactIsSub", spec := "fnExactIsSub", inPlace := ["internal/bytealg.IndexByteString"], unfollowed := true, recurses := true, apart := false }
def FnExactIsSubSaid : Prop := fnExactIsSubRow.holds Tryz.pinned (OpenSpec.ofChange fnExactIsSubSpec)

/-- ITS FALSE NEIGHBOUR: 'it returns false'. Refute it at one input. -/
def fnExactIsSubWrong : ChangeSpec := { name := "fnExactIsSub", fn := fun _ => fun
  | [d1, d2, d3] => { results := [.lit (.bool false)], args := [d1, d2, d3] }
  | _ => none }
def FnExactIsSubWrongFalsely : Prop := fnExactIsSubRow.holds Tryz.pinned (OpenSpec.ofChange fnExactIsSubWrong)

/-- 'laws.FnExactTypeKnown': WHATEVER THE INPUT: true; the input reads as it did. -/
def fnExactTypeKnownSpec : ChangeSpec := { name := "fnExactTypeKnown", fn := fun _ => fun
  | [d1, d2] => { results := [.lit (.bool true)], args := [d1, d2] }
  | _ => none }
def fnExactTypeKnownRow : OpenClaim := { program := "ytkbchflhpnefiaagreat", sum := "4880f02627bb99aafeb22e46ef40c00d6ccb9a49c7c693671ddb8c4e50d1c7e2", func := "loop.example/g00175/laws.FnExactTypeKnown", spec := "fnExactTypeKnown", inPlace := ["internal/bytealg.IndexByteString"], unfollowed := true, recurses := true, apart := false }
def FnExactTypeKnownSaid : Prop := fnExactTypeKnownRow.holds Tryz.pinned (OpenSpec.ofChange fnExactTypeKnownSpec)

/-- ITS FALSE NEIGHBOUR: 'it returns false'. Refute it at one input. -/
def fnExactTypeKnownWrong : ChangeSpec := { name := "fnExactTypeKnown", fn := fun _ => fun
  | [d1, d2] => { results := [.lit (.bool false)], args := [d1, d2] }
  | _ => none }
def FnExactTypeKnownWrongFalsely : Prop := fnExactTypeKnownRow.holds Tryz.pinned (OpenSpec.ofChange fnExactTypeKnownWrong)

/- THE SECOND FORM. 'bulk': how many values and letters a reading holds, each counted each time it is reached (what is shared counts as often as it is met; a slice's spare places count too). A statement '..UptoSaid' is the law's where the arguments, and the package variables that the reading takes, are together of bulk at most 1048576: NARROWER than '..Said'. Prove '..Said' where nothing that the law and all that it calls make is longer than what came in: it says more and counts as full. Else prove '..UptoSaid'. A law counts once. -/
mutual
def uptoBulk {H : Type} : DataW H → Nat
  | .lit (.string bytes) => bytes.length + 1
  | .lit _ => 1
  | .nil => 1
  | .ptr d => uptoBulk d + 1
  | .slice elems spare => uptoBulkAll elems + uptoBulkAll spare + 1
  | .agg parts => uptoBulkAll parts + 1
  | .iface _ d => uptoBulk d + 1
  | .map entries => uptoBulkEntries entries + 1
  | .held _ => 1
def uptoBulkAll {H : Type} : List (DataW H) → Nat
  | [] => 0
  | d :: r => uptoBulk d + uptoBulkAll r
def uptoBulkEntries {H : Type} : List (Lit × DataW H) → Nat
  | [] => 0
  | x :: r => uptoBulkEntry x + uptoBulkEntries r
def uptoBulkEntry {H : Type} : Lit × DataW H → Nat
  | (.string bytes, d) => bytes.length + uptoBulk d + 1
  | (_, d) => uptoBulk d + 1
 end
def uptoSmall : (H : Type) → List (DataW H) → Bool := fun _ ds => decide (uptoBulkAll ds ≤ 1048576)
def OpenSpec.upto (s : _root_.Go.ChangeSpec) : _root_.Go.OpenSpec := { _root_.Go.OpenSpec.ofChange s with cond := some uptoSmall }

/-- 'laws.FnLub', WHERE WHAT IT READS IS OF BULK AT MOST 1048576: true; the input reads as it did. -/
def fnLubUptoRow : OpenClaim := { program := "ytkbchflhpnefiaagreat", sum := "4880f02627bb99aafeb22e46ef40c00d6ccb9a49c7c693671ddb8c4e50d1c7e2", func := "loop.example/g00175/laws.FnLub", spec := "fnLub", inPlace := ["internal/bytealg.IndexByteString"], unfollowed := true, recurses := true, apart := false, narrowed := true }
def FnLubUptoSaid : Prop := fnLubUptoRow.holds Tryz.pinned (OpenSpec.upto fnLubSpec)

/-- 'laws.FnExactKnown', WHERE WHAT IT READS IS OF BULK AT MOST 1048576: true; the input reads as it did. -/
def fnExactKnownUptoRow : OpenClaim := { program := "ytkbchflhpnefiaagreat", sum := "4880f02627bb99aafeb22e46ef40c00d6ccb9a49c7c693671ddb8c4e50d1c7e2", func := "loop.example/g00175/laws.FnExactKnown", spec := "fnExactKnown", inPlace := ["internal/bytealg.IndexByteString"], unfollowed := true, recurses := true, apart := false, narrowed := true }
def FnExactKnownUptoSaid : Prop := fnExactKnownUptoRow.holds Tryz.pinned (OpenSpec.upto fnExactKnownSpec)

/-- 'laws.FnExactWorldCheck', WHERE WHAT IT READS IS OF BULK AT MOST 1048576: true; the input reads as it did. -/
def fnExactWorldCheckUptoRow : OpenClaim := { program := "ytkbchflhpnefiaagreat", sum := "4880f02627bb99aafeb22e46ef40c00d6ccb9a49c7c693671ddb8c4e50d1c7e2", func := "loop.example/g00175/laws.FnExactWorldCheck", spec := "fnExactWorldCheck", inPlace := ["internal/bytealg.IndexByteString"], unfollowed := true, recurses := true, apart := false, narrowed := true }
def FnExactWorldCheckUptoSaid : Prop := fnExactWorldCheckUptoRow.holds Tryz.pinned (OpenSpec.upto fnExactWorldCheckSpec)

/-- 'laws.FnExactSuperOf', WHERE WHAT IT READS IS OF BULK AT MOST 1048576: true; the input reads as it did. -/
def fnExactSuperOfUptoRow : OpenClaim := { program := "ytkbchflhpnefiaagreat", sum := "4880f02627bb99aafeb22e46ef40c00d6ccb9a49c7c693671ddb8c4e50d1c7e2", func := "loop.example/g00175/laws.FnExactSuperOf", spec := "fnExactSuperOf", inPlace := ["internal/bytealg.IndexByteString"], unfollowed := true, recurses := true, apart := false, narrowed := true }
def FnExactSuperOfUptoSaid : Prop := fnExactSuperOfUptoRow.holds Tryz.pinned (OpenSpec.upto fnExactSuperOfSpec)

/-- 'laws.FnExactIsSub', WHERE WHAT IT READS IS OF BULK AT MOST 1048576: true; the input reads as it did. -/
def fnExactIsSubUptoRow : OpenClaim := { program := "ytkbchflhpnefiaagreat", sum := "4880f02627bb99aafeb22e46ef40c00d6ccb9a49c7c693671ddb8c4e50d1c7e2", func := "loop.example/g00175/laws.FnExactIsSub", spec := "fnExactIsSub", inPlace := ["internal/bytealg.IndexByteString"], unfollowed := true, recurses := true, apart := false, narrowed := true }
def FnExactIsSubUptoSaid : Prop := fnExactIsSubUptoRow.holds Tryz.pinned (OpenSpec.upto fnExactIsSubSpec)

/-- 'laws.FnExactTypeKnown', WHERE WHAT IT READS IS OF BULK AT MOST 1048576: true; the input reads as it did. -/
def fnExactTypeKnownUptoRow : OpenClaim := { program := "ytkbchflhpnefiaagreat", sum := "4880f02627bb99aafeb22e46ef40c00d6ccb9a49c7c693671ddb8c4e50d1c7e2", func := "loop.example/g00175/laws.FnExactTypeKnown", spec := "fnExactTypeKnown", inPlace := ["internal/bytealg.IndexByteString"], unfollowed := true, recurses := true, apart := false, narrowed := true }
def FnExactTypeKnownUptoSaid : Prop := fnExactTypeKnownUptoRow.holds Tryz.pinned (OpenSpec.upto fnExactTypeKnownSpec)

end Rows
end Go.Proofs.YtkbchflhpnefiaaGreat
