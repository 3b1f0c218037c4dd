/-
  No cell of these rows narrows 'for every input' (looked for: loops, veiled, ifaces, maps, wideKeys, modest, calm, conditions, laid).
  DERIVED. THE GIVEN ROWS OF THIS SEAT. 12 by the template 'for every input the law returns true; each argument reads behind the call as it read before'; 0 by the template 'total and deterministic' (their statements: YtfannbjeleonkaaGreatTotals.lean).
  GIVEN WITH THE SEED: the statements are not yours to turn. If you find one false, say at which input.
  Laid BY PROGRAM, IN A SANDBOX (cutbox-rows.mjs): the forced cells as the released guide's own fill.sh prints them over the translation 4ca03148d96d0c9e… (all of the seat's roots in one cut). By AI agents, Wed Nov 11 2026. No macro, syntax, notation, axiom, sorry.
-/
import Derived.Test.YtfannbjeleonkaaGreatChecked
import GoSem.Claim
import GoSem.ClaimJoined
import GoSem.ClaimMapViews
import Derived.JoinedTies
import Derived.KernelRfl
namespace Go.Proofs.YtfannbjeleonkaaGreat
/- THE CELL 'sum', in the pinned program and in every row, IS THE sha256 OF THE DUMP (.gsa) THAT YtfannbjeleonkaaGreatProg.lean LOADS. Nothing in Lean hashes anything: it is a label: what it is worth is what the hold of that sum in a sandbox is worth. -/
noncomputable def Tryz.pinned : Pinned := { name := "ytfannbjeleonkaagreat", sum := "4ca03148d96d0c9e1f31431cfe1af19bf61bef2b0ebf80a468ff539acfedfd6c", checked := Tryz.checked }
namespace Rows
def none {H : Type} : Left H := { results := [], args := [] }

/-- 'laws.FnExactCommonOf': WHATEVER THE INPUT: true; the input reads as it did. -/
def fnExactCommonOfSpec : ChangeSpec := { name := "fnExactCommonOf", fn := fun _ => fun
  | [d1, d2, d3] => { results := [.lit (.bool true)], args := [d1, d2, d3] }
  | _ => none }
def fnExactCommonOfRow : OpenClaim := { program := "ytfannbjeleonkaagreat", sum := "4ca03148d96d0c9e1f31431cfe1af19bf61bef2b0ebf80a468ff539acfedfd6c", func := "loop.example/g00175/laws.FnExactCommonOf", spec := "fnExactCommonOf", inPlace := ["internal/bytealg.IndexByteString"], unfollowed := true, recurses := true, apart := false }
def FnExactCommonOfSaid : Prop := fnExactCommonOfRow.holds Tryz.pinned (OpenSpec.ofChange fnExactCommonOfSpec)

/-- ITS FALSE NEIGHBOUR: 'it returns false'. Refute it at one input. -/
def fnExactCommonOfWrong : ChangeSpec := { name := "fnExactCommonOf", fn := fun _ => fun
  | [d1, d2, d3] => { results := [.lit (.bool false)], args := [d1, d2, d3] }
  | _ => none }
def FnExactCommonOfWrongFalsely : Prop := fnExactCommonOfRow.holds Tryz.pinned (OpenSpec.ofChange fnExactCommonOfWrong)

/-- 'laws.FnExactFindMethod': WHATEVER THE INPUT: true; the input reads as it did. -/
def fnExactFindMethodSpec : ChangeSpec := { name := "fnExactFindMethod", fn := fun _ => fun
  | [d1, d2, d3, d4] => { results := [.lit (.bool true)], args := [d1, d2, d3, d4] }
  | _ => none }
def fnExactFindMethodRow : OpenClaim := { program := "ytfannbjeleonkaagreat", sum := "4ca03148d96d0c9e1f31431cfe1af19bf61bef2b0ebf80a468ff539acfedfd6c", func := "loop.example/g00175/laws.FnExactFindMethod", spec := "fnExactFindMethod", inPlace := ["internal/bytealg.IndexByteString"], unfollowed := true, recurses := true, apart := false }
def FnExactFindMethodSaid : Prop := fnExactFindMethodRow.holds Tryz.pinned (OpenSpec.ofChange fnExactFindMethodSpec)

/-- ITS FALSE NEIGHBOUR: 'it returns false'. Refute it at one input. -/
def fnExactFindMethodWrong : ChangeSpec := { name := "fnExactFindMethod", fn := fun _ => fun
  | [d1, d2, d3, d4] => { results := [.lit (.bool false)], args := [d1, d2, d3, d4] }
  | _ => none }
def FnExactFindMethodWrongFalsely : Prop := fnExactFindMethodRow.holds Tryz.pinned (OpenSpec.ofChange fnExactFindMethodWrong)

/-- 'laws.FnExactTypeLe': WHATEVER THE INPUT: true; the input reads as it did. -/
def fnExactTypeLeSpec : ChangeSpec := { name := "fnExactTypeLe", fn := fun _ => fun
  | [d1, d2, d3] => { results := [.lit (.bool true)], args := [d1, d2, d3] }
  | _ => none }
def fnExactTypeLeRow : OpenClaim := { program := "ytfannbjeleonkaagreat", sum := "4ca03148d96d0c9e1f31431cfe1af19bf61bef2b0ebf80a468ff539acfedfd6c", func := "loop.example/g00175/laws.FnExactTypeLe", spec := "fnExactTypeLe", inPlace := ["internal/bytealg.IndexByteString"], unfollowed := true, recurses := true, apart := false }
def FnExactTypeLeSaid : Prop := fnExactTypeLeRow.holds Tryz.pinned (OpenSpec.ofChange fnExactTypeLeSpec)

/-- ITS FALSE NEIGHBOUR: 'it returns false'. Refute it at one input. -/
def fnExactTypeLeWrong : ChangeSpec := { name := "fnExactTypeLe", fn := fun _ => fun
  | [d1, d2, d3] => { results := [.lit (.bool false)], args := [d1, d2, d3] }
  | _ => none }
def FnExactTypeLeWrongFalsely : Prop := fnExactTypeLeRow.holds Tryz.pinned (OpenSpec.ofChange fnExactTypeLeWrong)

/-- 'laws.FnExactFrameRight': WHATEVER THE INPUT: true; the input reads as it did. -/
def fnExactFrameRightSpec : ChangeSpec := { name := "fnExactFrameRight", fn := fun _ => fun
  | [d1, d2] => { results := [.lit (.bool true)], args := [d1, d2] }
  | _ => none }
def fnExactFrameRightRow : OpenClaim := { program := "ytfannbjeleonkaagreat", sum := "4ca03148d96d0c9e1f31431cfe1af19bf61bef2b0ebf80a468ff539acfedfd6c", func := "loop.example/g00175/laws.FnExactFrameRight", spec := "fnExactFrameRight", inPlace := ["internal/bytealg.IndexByteString"], unfollowed := true, recurses := true, apart := false }
def FnExactFrameRightSaid : Prop := fnExactFrameRightRow.holds Tryz.pinned (OpenSpec.ofChange fnExactFrameRightSpec)

/-- ITS FALSE NEIGHBOUR: 'it returns false'. Refute it at one input. -/
def fnExactFrameRightWrong : ChangeSpec := { name := "fnExactFrameRight", fn := fun _ => fun
  | [d1, d2] => { results := [.lit (.bool false)], args := [d1, d2] }
  | _ => none }
def FnExactFrameRightWrongFalsely : Prop := fnExactFrameRightRow.holds Tryz.pinned (OpenSpec.ofChange fnExactFrameRightWrong)

/-- 'laws.FnExactFindField': WHATEVER THE INPUT: true; the input reads as it did. -/
def fnExactFindFieldSpec : ChangeSpec := { name := "fnExactFindField", fn := fun _ => fun
  | [d1, d2, d3, d4] => { results := [.lit (.bool true)], args := [d1, d2, d3, d4] }
  | _ => none }
def fnExactFindFieldRow : OpenClaim := { program := "ytfannbjeleonkaagreat", sum := "4ca03148d96d0c9e1f31431cfe1af19bf61bef2b0ebf80a468ff539acfedfd6c", func := "loop.example/g00175/laws.FnExactFindField", spec := "fnExactFindField", inPlace := ["internal/bytealg.IndexByteString"], unfollowed := true, recurses := true, apart := false }
def FnExactFindFieldSaid : Prop := fnExactFindFieldRow.holds Tryz.pinned (OpenSpec.ofChange fnExactFindFieldSpec)

/-- ITS FALSE NEIGHBOUR: 'it returns false'. Refute it at one input. -/
def fnExactFindFieldWrong : ChangeSpec := { name := "fnExactFindField", fn := fun _ => fun
  | [d1, d2, d3, d4] => { results := [.lit (.bool false)], args := [d1, d2, d3, d4] }
  | _ => none }
def FnExactFindFieldWrongFalsely : Prop := fnExactFindFieldRow.holds Tryz.pinned (OpenSpec.ofChange fnExactFindFieldWrong)

/-- 'laws.FnExactTypeLub': WHATEVER THE INPUT: true; the input reads as it did. -/
def fnExactTypeLubSpec : ChangeSpec := { name := "fnExactTypeLub", fn := fun _ => fun
  | [d1, d2, d3] => { results := [.lit (.bool true)], args := [d1, d2, d3] }
  | _ => none }
def fnExactTypeLubRow : OpenClaim := { program := "ytfannbjeleonkaagreat", sum := "4ca03148d96d0c9e1f31431cfe1af19bf61bef2b0ebf80a468ff539acfedfd6c", func := "loop.example/g00175/laws.FnExactTypeLub", spec := "fnExactTypeLub", inPlace := ["internal/bytealg.IndexByteString"], unfollowed := true, recurses := true, apart := false }
def FnExactTypeLubSaid : Prop := fnExactTypeLubRow.holds Tryz.pinned (OpenSpec.ofChange fnExactTypeLubSpec)

/-- ITS FALSE NEIGHBOUR: 'it returns false'. Refute it at one input. -/
def fnExactTypeLubWrong : ChangeSpec := { name := "fnExactTypeLub", fn := fun _ => fun
  | [d1, d2, d3] => { results := [.lit (.bool false)], args := [d1, d2, d3] }
  | _ => none }
def FnExactTypeLubWrongFalsely : Prop := fnExactTypeLubRow.holds Tryz.pinned (OpenSpec.ofChange fnExactTypeLubWrong)

/-- 'laws.FnExactFieldsOf': WHATEVER THE INPUT: true; the input reads as it did. -/
def fnExactFieldsOfSpec : ChangeSpec := { name := "fnExactFieldsOf", fn := fun _ => fun
  | [d1, d2] => { results := [.lit (.bool true)], args := [d1, d2] }
  | _ => none }
def fnExactFieldsOfRow : OpenClaim := { program := "ytfannbjeleonkaagreat", sum := "4ca03148d96d0c9e1f31431cfe1af19bf61bef2b0ebf80a468ff539acfedfd6c", func := "loop.example/g00175/laws.FnExactFieldsOf", spec := "fnExactFieldsOf", inPlace := ["internal/bytealg.IndexByteString"], unfollowed := true, recurses := true, apart := false }
def FnExactFieldsOfSaid : Prop := fnExactFieldsOfRow.holds Tryz.pinned (OpenSpec.ofChange fnExactFieldsOfSpec)

/-- ITS FALSE NEIGHBOUR: 'it returns false'. Refute it at one input. -/
def fnExactFieldsOfWrong : ChangeSpec := { name := "fnExactFieldsOf", fn := fun _ => fun
  | [d1, d2] => { results := [.lit (.bool false)], args := [d1, d2] }
  | _ => none }
def FnExactFieldsOfWrongFalsely : Prop := fnExactFieldsOfRow.holds Tryz.pinned (OpenSpec.ofChange fnExactFieldsOfWrong)

/-- 'laws.FnExactFrameLe': WHATEVER THE INPUT: true; the input reads as it did. -/
def fnExactFrameLeSpec : ChangeSpec := { name := "fnExactFrameLe", fn := fun _ => fun
  | [d1, d2, d3] => { results := [.lit (.bool true)], args := [d1, d2, d3] }
  | _ => none }
def fnExactFrameLeRow : OpenClaim := { program := "ytfannbjeleonkaagreat", sum := "4ca03148d96d0c9e1f31431cfe1af19bf61bef2b0ebf80a468ff539acfedfd6c", func := "loop.example/g00175/laws.FnExactFrameLe", spec := "fnExactFrameLe", inPlace := ["internal/bytealg.IndexByteString"], unfollowed := true, recurses := true, apart := false }
def FnExactFrameLeSaid : Prop := fnExactFrameLeRow.holds Tryz.pinned (OpenSpec.ofChange fnExactFrameLeSpec)

/-- ITS FALSE NEIGHBOUR: 'it returns false'. Refute it at one input. -/
def fnExactFrameLeWrong : ChangeSpec := { name := "fnExactFrameLe", fn := fun _ => fun
  | [d1, d2, d3] => { results := [.lit (.bool false)], args := [d1, d2, d3] }
  | _ => none }
def FnExactFrameLeWrongFalsely : Prop := fnExactFrameLeRow.holds Tryz.pinned (OpenSpec.ofChange fnExactFrameLeWrong)

/-- 'laws.FnExactHeapRight': WHATEVER THE INPUT: true; the input reads as it did. -/
def fnExactHeapRightSpec : ChangeSpec := { name := "fnExactHeapRight", fn := fun _ => fun
  | [d1, d2] => { results := [.lit (.bool true)], args := [d1, d2] }
  | _ => none }
def fnExactHeapRightRow : OpenClaim := { program := "ytfannbjeleonkaagreat", sum := "4ca03148d96d0c9e1f31431cfe1af19bf61bef2b0ebf80a468ff539acfedfd6c", func := "loop.example/g00175/laws.FnExactHeapRight", spec := "fnExactHeapRight", inPlace := ["internal/bytealg.IndexByteString"], unfollowed := true, recurses := true, apart := false }
def FnExactHeapRightSaid : Prop := fnExactHeapRightRow.holds Tryz.pinned (OpenSpec.ofChange fnExactHeapRightSpec)

/-- ITS FALSE NEIGHBOUR: 'it returns false'. Refute it at one input. -/
def fnExactHeapRightWrong : ChangeSpec := { name := "fnExactHeapRight", fn := fun _ => fun
  | [d1, d2] => { results := [.lit (.bool false)], args := [d1, d2] }
  | _ => none }
def FnExactHeapRightWrongFalsely : Prop := fnExactHeapRightRow.holds Tryz.pinned (OpenSpec.ofChange fnExactHeapRightWrong)

/-- 'laws.FnExactFrameStart': WHATEVER THE INPUT: true; the input reads as it did. -/
def fnExactFrameStartSpec : ChangeSpec := { name := "fnExactFrameStart", fn := fun _ => fun
  | [d1, d2, d3] => { results := [.lit (.bool true)], args := [d1, d2, d3] }
  | _ => none }
def fnExactFrameStartRow : OpenClaim := { program := "ytfannbjeleonkaagreat", sum := "4ca03148d96d0c9e1f31431cfe1af19bf61bef2b0ebf80a468ff539acfedfd6c", func := "loop.example/g00175/laws.FnExactFrameStart", spec := "fnExactFrameStart", inPlace := ["internal/bytealg.IndexByteString"], unfollowed := true, recurses := true, apart := false }
def FnExactFrameStartSaid : Prop := fnExactFrameStartRow.holds Tryz.pinned (OpenSpec.ofChange fnExactFrameStartSpec)

/-- ITS FALSE NEIGHBOUR: 'it returns false'. Refute it at one input. -/
def fnExactFrameStartWrong : ChangeSpec := { name := "fnExactFrameStart", fn := fun _ => fun
  | [d1, d2, d3] => { results := [.lit (.bool false)], args := [d1, d2, d3] }
  | _ => none }
def FnExactFrameStartWrongFalsely : Prop := fnExactFrameStartRow.holds Tryz.pinned (OpenSpec.ofChange fnExactFrameStartWrong)

/-- 'laws.FnExactHeapIs': WHATEVER THE INPUT: true; the input reads as it did. -/
def fnExactHeapIsSpec : ChangeSpec := { name := "fnExactHeapIs", fn := fun _ => fun
  | [d1, d2, d3, d4] => { results := [.lit (.bool true)], args := [d1, d2, d3, d4] }
  | _ => none }
def fnExactHeapIsRow : OpenClaim := { program := "ytfannbjeleonkaagreat", sum := "4ca03148d96d0c9e1f31431cfe1af19bf61bef2b0ebf80a468ff539acfedfd6c", func := "loop.example/g00175/laws.FnExactHeapIs", spec := "fnExactHeapIs", inPlace := ["internal/bytealg.IndexByteString"], unfollowed := true, recurses := true, apart := false }
def FnExactHeapIsSaid : Prop := fnExactHeapIsRow.holds Tryz.pinned (OpenSpec.ofChange fnExactHeapIsSpec)

/-- ITS FALSE NEIGHBOUR: 'it returns false'. Refute it at one input. -/
def fnExactHeapIsWrong : ChangeSpec := { name := "fnExactHeapIs", fn := fun _ => fun
  | [d1, d2, d3, d4] => { results := [.lit (.bool false)], args := [d1, d2, d3, d4] }
  | _ => none }
def FnExactHeapIsWrongFalsely : Prop := fnExactHeapIsRow.holds Tryz.pinned (OpenSpec.ofChange fnExactHeapIsWrong)

/-- 'laws.FnExactFrameLub': WHATEVER THE INPUT: true; the input reads as it did. -/
def fnExactFrameLubSpec : ChangeSpec := { name := "fnExactFrameLub", fn := fun _ => fun
  | [d1, d2, d3] => { results := [.lit (.bool true)], args := [d1, d2, d3] }
  | _ => none }
def fnExactFrameLubRow : OpenClaim := { program := "ytfannbjeleonkaagreat", sum := "4ca03148d96d0c9e1f31431cfe1af19bf61bef2b0ebf80a468ff539acfedfd6c", func := "loop.example/g00175/laws.FnExactFrameLub", spec := "fnExactFrameLub", inPlace := ["internal/bytealg.IndexByteString"], unfollowed := true, recurses := true, apart := false }
def FnExactFrameLubSaid : Prop := fnExactFrameLubRow.holds Tryz.pinned (OpenSpec.ofChange fnExactFrameLubSpec)

/-- ITS FALSE NEIGHBOUR: 'it returns false'. Refute it at one input. -/
def fnExactFrameLubWrong : ChangeSpec := { name := "fnExactFrameLub", fn := fun _ => fun
  | [d1, d2, d3] => { results := [.lit (.bool false)], args := [d1, d2, d3] }
  | _ => none }
def FnExactFrameLubWrongFalsely : Prop := fnExactFrameLubRow.holds Tryz.pinned (OpenSpec.ofChange fnExactFrameLubWrong)

/- THE SECOND FORM. 'bulk': how many values and letters a reading holds, each counted each time it is reached (what is shared counts as often as it is met; a slice's spare places count too). A statement '..UptoSaid' is the law's where the arguments, and the package variables that the reading takes, are together of bulk at most 1048576: NARROWER than '..Said'. Prove '..Said' where nothing that the law and all that it calls make is longer than what came in: it says more and counts as full. Else prove '..UptoSaid'. A law counts once. -/
mutual
def uptoBulk {H : Type} : DataW H → Nat
  | .lit (.string bytes) => bytes.length + 1
  | .lit _ => 1
  | .nil => 1
  | .ptr d => uptoBulk d + 1
  | .slice elems spare => uptoBulkAll elems + uptoBulkAll spare + 1
  | .agg parts => uptoBulkAll parts + 1
  | .iface _ d => uptoBulk d + 1
  | .map entries => uptoBulkEntries entries + 1
  | .held _ => 1
def uptoBulkAll {H : Type} : List (DataW H) → Nat
  | [] => 0
  | d :: r => uptoBulk d + uptoBulkAll r
def uptoBulkEntries {H : Type} : List (Lit × DataW H) → Nat
  | [] => 0
  | x :: r => uptoBulkEntry x + uptoBulkEntries r
def uptoBulkEntry {H : Type} : Lit × DataW H → Nat
  | (.string bytes, d) => bytes.length + uptoBulk d + 1
  | (_, d) => uptoBulk d + 1
 end
def uptoSmall : (H : Type) → List (DataW H) → Bool := fun _ ds => decide (uptoBulkAll ds ≤ 1048576)
def OpenSpec.upto (s : _root_.Go.ChangeSpec) : _root_.Go.OpenSpec := { _root_.Go.OpenSpec.ofChange s with cond := some uptoSmall }

/-- 'laws.FnExactCommonOf', WHERE WHAT IT READS IS OF BULK AT MOST 1048576: true; the input reads as it did. -/
def fnExactCommonOfUptoRow : OpenClaim := { program := "ytfannbjeleonkaagreat", sum := "4ca03148d96d0c9e1f31431cfe1af19bf61bef2b0ebf80a468ff539acfedfd6c", func := "loop.example/g00175/laws.FnExactCommonOf", spec := "fnExactCommonOf", inPlace := ["internal/bytealg.IndexByteString"], unfollowed := true, recurses := true, apart := false, narrowed := true }
def FnExactCommonOfUptoSaid : Prop := fnExactCommonOfUptoRow.holds Tryz.pinned (OpenSpec.upto fnExactCommonOfSpec)

/-- 'laws.FnExactFindMethod', WHERE WHAT IT READS IS OF BULK AT MOST 1048576: true; the input reads as it did. -/
def fnExactFindMethodUptoRow : OpenClaim := { program := "ytfannbjeleonkaagreat", sum := "4ca03148d96d0c9e1f31431cfe1af19bf61bef2b0ebf80a468ff539acfedfd6c", func := "loop.example/g00175/laws.FnExactFindMethod", spec := "fnExactFindMethod", inPlace := ["internal/bytealg.IndexByteString"], unfollowed := true, recurses := true, apart := false, narrowed := true }
def FnExactFindMethodUptoSaid : Prop := fnExactFindMethodUptoRow.holds Tryz.pinned (OpenSpec.upto fnExactFindMethodSpec)

/-- 'laws.FnExactTypeLe', WHERE WHAT IT READS IS OF BULK AT MOST 1048576: true; the input reads as it did. -/
def fnExactTypeLeUptoRow : OpenClaim := { program := "ytfannbjeleonkaagreat", sum := "4ca03148d96d0c9e1f31431cfe1af19bf61bef2b0ebf80a468ff539acfedfd6c", func := "loop.example/g00175/laws.FnExactTypeLe", spec := "fnExactTypeLe", inPlace := ["internal/bytealg.IndexByteString"], unfollowed := true, recurses := true, apart := false, narrowed := true }
def FnExactTypeLeUptoSaid : Prop := fnExactTypeLeUptoRow.holds Tryz.pinned (OpenSpec.upto fnExactTypeLeSpec)

/-- 'laws.FnExactFrameRight', WHERE WHAT IT READS IS OF BULK AT MOST 1048576: true; the input reads as it did. -/
def fnExactFrameRightUptoRow : OpenClaim := { program := "ytfannbjeleonkaagreat", sum := "4ca03148d96d0c9e1f31431cfe1af19bf61bef2b0ebf80a468ff539acfedfd6c", func := "loop.example/g00175/laws.FnExactFrameRight", spec := "fnExactFrameRight", inPlace := ["internal/bytealg.IndexByteString"], unfollowed := true, recurses := true, apart := false, narrowed := true }
def FnExactFrameRightUptoSaid : Prop := fnExactFrameRightUptoRow.holds Tryz.pinned (OpenSpec.upto fnExactFrameRightSpec)

/-- 'laws.FnExactFindField', WHERE WHAT IT READS IS OF BULK AT MOST 1048576: true; the input reads as it did. -/
def fnExactFindFieldUptoRow : OpenClaim := { program := "ytfannbjeleonkaagreat", sum := "4ca03148d96d0c9e1f31431cfe1af19bf61bef2b0ebf80a468ff539acfedfd6c", func := "loop.example/g00175/laws.FnExactFindField", spec := "fnExactFindField", inPlace := ["internal/bytealg.IndexByteString"], unfollowed := true, recurses := true, apart := false, narrowed := true }
def FnExactFindFieldUptoSaid : Prop := fnExactFindFieldUptoRow.holds Tryz.pinned (OpenSpec.upto fnExactFindFieldSpec)

/-- 'laws.FnExactTypeLub', WHERE WHAT IT READS IS OF BULK AT MOST 1048576: true; the input reads as it did. -/
def fnExactTypeLubUptoRow : OpenClaim := { program := "ytfannbjeleonkaagreat", sum := "4ca03148d96d0c9e1f31431cfe1af19bf61bef2b0ebf80a468ff539acfedfd6c", func := "loop.example/g00175/laws.FnExactTypeLub", spec := "fnExactTypeLub", inPlace := ["internal/bytealg.IndexByteString"], unfollowed := true, recurses := true, apart := false, narrowed := true }
def FnExactTypeLubUptoSaid : Prop := fnExactTypeLubUptoRow.holds Tryz.pinned (OpenSpec.upto fnExactTypeLubSpec)

/-- 'laws.FnExactFieldsOf', WHERE WHAT IT READS IS OF BULK AT MOST 1048576: true; the input reads as it did. -/
def fnExactFieldsOfUptoRow : OpenClaim := { program := "ytfannbjeleonkaagreat", sum := "4ca03148d96d0c9e1f31431cfe1af19bf61bef2b0ebf80a468ff539acfedfd6c", func := "loop.example/g00175/laws.FnExactFieldsOf", spec := "fnExactFieldsOf", inPlace := ["internal/bytealg.IndexByteString"], unfollowed := true, recurses := true, apart := false, narrowed := true }
def FnExactFieldsOfUptoSaid : Prop := fnExactFieldsOfUptoRow.holds Tryz.pinned (OpenSpec.upto fnExactFieldsOfSpec)

/-- 'laws.FnExactFrameLe', WHERE WHAT IT READS IS OF BULK AT MOST 1048576: true; the input reads as it did. -/
def fnExactFrameLeUptoRow : OpenClaim := { program := "ytfannbjeleonkaagreat", sum := "4ca03148d96d0c9e1f31431cfe1af19bf61bef2b0ebf80a468ff539acfedfd6c", func := "loop.example/g00175/laws.FnExactFrameLe", spec := "fnExactFrameLe", inPlace := ["internal/bytealg.IndexByteString"], unfollowed := true, recurses := true, apart := false, narrowed := true }
def FnExactFrameLeUptoSaid : Prop := fnExactFrameLeUptoRow.holds Tryz.pinned (OpenSpec.upto fnExactFrameLeSpec)

/-- 'laws.FnExactHeapRight', WHERE WHAT IT READS IS OF BULK AT MOST 1048576: true; the input reads as it did. -/
def fnExactHeapRightUptoRow : OpenClaim := { program := "ytfannbjeleonkaagreat", sum := "4ca03148d96d0c9e1f31431cfe1af19bf61bef2b0ebf80a468ff539acfedfd6c", func := "loop.example/g00175/laws.FnExactHeapRight", spec := "fnExactHeapRight", inPlace := ["internal/bytealg.IndexByteString"], unfollowed := true, recurses := true, apart := false, narrowed := true }
def FnExactHeapRightUptoSaid : Prop := fnExactHeapRightUptoRow.holds Tryz.pinned (OpenSpec.upto fnExactHeapRightSpec)

/-- 'laws.FnExactFrameStart', WHERE WHAT IT READS IS OF BULK AT MOST 1048576: true; the input reads as it did. -/
def fnExactFrameStartUptoRow : OpenClaim := { program := "ytfannbjeleonkaagreat", sum := "4ca03148d96d0c9e1f31431cfe1af19bf61bef2b0ebf80a468ff539acfedfd6c", func := "loop.example/g00175/laws.FnExactFrameStart", spec := "fnExactFrameStart", inPlace := ["internal/bytealg.IndexByteString"], unfollowed := true, recurses := true, apart := false, narrowed := true }
def FnExactFrameStartUptoSaid : Prop := fnExactFrameStartUptoRow.holds Tryz.pinned (OpenSpec.upto fnExactFrameStartSpec)

/-- 'laws.FnExactHeapIs', WHERE WHAT IT READS IS OF BULK AT MOST 1048576: true; the input reads as it did. -/
def fnExactHeapIsUptoRow : OpenClaim := { program := "ytfannbjeleonkaagreat", sum := "4ca03148d96d0c9e1f31431cfe1af19bf61bef2b0ebf80a468ff539acfedfd6c", func := "loop.example/g00175/laws.FnExactHeapIs", spec := "fnExactHeapIs", inPlace := ["internal/bytealg.IndexByteString"], unfollowed := true, recurses := true, apart := false, narrowed := true }
def FnExactHeapIsUptoSaid : Prop := fnExactHeapIsUptoRow.holds Tryz.pinned (OpenSpec.upto fnExactHeapIsSpec)

/-- 'laws.FnExactFrameLub', WHERE WHAT IT READS IS OF BULK AT MOST 1048576: true; the input reads as it did. -/
def fnExactFrameLubUptoRow : OpenClaim := { program := "ytfannbjeleonkaagreat", sum := "4ca03148d96d0c9e1f31431cfe1af19bf61bef2b0ebf80a468ff539acfedfd6c", func := "loop.example/g00175/laws.FnExactFrameLub", spec := "fnExactFrameLub", inPlace := ["internal/bytealg.IndexByteString"], unfollowed := true, recurses := true, apart := false, narrowed := true }
def FnExactFrameLubUptoSaid : Prop := fnExactFrameLubUptoRow.holds Tryz.pinned (OpenSpec.upto fnExactFrameLubSpec)

end Rows
end Go.Proofs.YtfannbjeleonkaaGreat
