/-
  No cell of these rows narrows 'for every input' (looked for: loops, veiled, ifaces, maps, wideKeys, modest, calm, conditions, laid).
  DERIVED. THE GIVEN ROWS OF THIS SEAT. 5 by the template 'for every input the law returns true; each argument reads behind the call as it read before'; 0 by the template 'total and deterministic' (their statements: YtebbhmbngfpkaaaGreatTotals.lean).
  GIVEN WITH THE SEED: the statements are not yours to turn. If you find one false, say at which input.
  Laid BY PROGRAM, IN A SANDBOX (cutbox-rows.mjs): the forced cells as the released guide's own fill.sh prints them over the translation 0be4ed232f5e12d0… (all of the seat's roots in one cut). By AI agents, Wed Nov 11 2026. No macro, syntax, notation, axiom, sorry.
-/
import Derived.Test.YtebbhmbngfpkaaaGreatChecked
import GoSem.Claim
import GoSem.ClaimJoined
import GoSem.ClaimMapViews
import Derived.JoinedTies
import Derived.KernelRfl
namespace Go.Proofs.YtebbhmbngfpkaaaGreat
/- THE CELL 'sum', in the pinned program and in every row, IS THE sha256 OF THE DUMP (.gsa) THAT YtebbhmbngfpkaaaGreatProg.lean LOADS. Nothing in Lean hashes anything: it is a label: what it is worth is what the hold of that sum in a sandbox is worth. -/
noncomputable def Tryz.pinned : Pinned := { name := "ytebbhmbngfpkaaagreat", sum := "0be4ed232f5e12d024dd676ca124b9ce763ece845b7ab670acf53d7d828df7ff", checked := Tryz.checked }
namespace Rows
def none {H : Type} : Left H := { results := [], args := [] }

/-- 'laws.FnExactHeapGet': WHATEVER THE INPUT: true; the input reads as it did. -/
def fnExactHeapGetSpec : ChangeSpec := { name := "fnExactHeapGet", fn := fun _ => fun
  | [d1, d2, d3, d4] => { results := [.lit (.bool true)], args := [d1, d2, d3, d4] }
  | _ => none }
def fnExactHeapGetRow : OpenClaim := { program := "ytebbhmbngfpkaaagreat", sum := "0be4ed232f5e12d024dd676ca124b9ce763ece845b7ab670acf53d7d828df7ff", func := "loop.example/g00175/laws.FnExactHeapGet", spec := "fnExactHeapGet", inPlace := ["internal/bytealg.IndexByteString"], unfollowed := true, recurses := true, apart := false }
def FnExactHeapGetSaid : Prop := fnExactHeapGetRow.holds Tryz.pinned (OpenSpec.ofChange fnExactHeapGetSpec)

/-- ITS FALSE NEIGHBOUR: 'it returns false'. Refute it at one input. -/
def fnExactHeapGetWrong : ChangeSpec := { name := "fnExactHeapGet", fn := fun _ => fun
  | [d1, d2, d3, d4] => { results := [.lit (.bool false)], args := [d1, d2, d3, d4] }
  | _ => none }
def FnExactHeapGetWrongFalsely : Prop := fnExactHeapGetRow.holds Tryz.pinned (OpenSpec.ofChange fnExactHeapGetWrong)

/-- 'laws.FnExactHeapMake': WHATEVER THE INPUT: true; the input reads as it did. -/
def fnExactHeapMakeSpec : ChangeSpec := { name := "fnExactHeapMake", fn := fun _ => fun
  | [d1, d2, d3] => { results := [.lit (.bool true)], args := [d1, d2, d3] }
  | _ => none }
def fnExactHeapMakeRow : OpenClaim := { program := "ytebbhmbngfpkaaagreat", sum := "0be4ed232f5e12d024dd676ca124b9ce763ece845b7ab670acf53d7d828df7ff", func := "loop.example/g00175/laws.FnExactHeapMake", spec := "fnExactHeapMake", inPlace := ["internal/bytealg.IndexByteString"], unfollowed := true, recurses := true, apart := false }
def FnExactHeapMakeSaid : Prop := fnExactHeapMakeRow.holds Tryz.pinned (OpenSpec.ofChange fnExactHeapMakeSpec)

/-- ITS FALSE NEIGHBOUR: 'it returns false'. Refute it at one input. -/
def fnExactHeapMakeWrong : ChangeSpec := { name := "fnExactHeapMake", fn := fun _ => fun
  | [d1, d2, d3] => { results := [.lit (.bool false)], args := [d1, d2, d3] }
  | _ => none }
def FnExactHeapMakeWrongFalsely : Prop := fnExactHeapMakeRow.holds Tryz.pinned (OpenSpec.ofChange fnExactHeapMakeWrong)

/-- 'laws.FnExactHeapList': WHATEVER THE INPUT: true; the input reads as it did. -/
def fnExactHeapListSpec : ChangeSpec := { name := "fnExactHeapList", fn := fun _ => fun
  | [d1, d2, d3, d4] => { results := [.lit (.bool true)], args := [d1, d2, d3, d4] }
  | _ => none }
def fnExactHeapListRow : OpenClaim := { program := "ytebbhmbngfpkaaagreat", sum := "0be4ed232f5e12d024dd676ca124b9ce763ece845b7ab670acf53d7d828df7ff", func := "loop.example/g00175/laws.FnExactHeapList", spec := "fnExactHeapList", inPlace := ["internal/bytealg.IndexByteString"], unfollowed := true, recurses := true, apart := false }
def FnExactHeapListSaid : Prop := fnExactHeapListRow.holds Tryz.pinned (OpenSpec.ofChange fnExactHeapListSpec)

/-- ITS FALSE NEIGHBOUR: 'it returns false'. Refute it at one input. -/
def fnExactHeapListWrong : ChangeSpec := { name := "fnExactHeapList", fn := fun _ => fun
  | [d1, d2, d3, d4] => { results := [.lit (.bool false)], args := [d1, d2, d3, d4] }
  | _ => none }
def FnExactHeapListWrongFalsely : Prop := fnExactHeapListRow.holds Tryz.pinned (OpenSpec.ofChange fnExactHeapListWrong)

/-- 'laws.FnExactHeapPut': WHATEVER THE INPUT: true; the input reads as it did. -/
def fnExactHeapPutSpec : ChangeSpec := { name := "fnExactHeapPut", fn := fun _ => fun
  | [d1, d2, d3, d4, d5] => { results := [.lit (.bool true)], args := [d1, d2, d3, d4, d5] }
  | _ => none }
def fnExactHeapPutRow : OpenClaim := { program := "ytebbhmbngfpkaaagreat", sum := "0be4ed232f5e12d024dd676ca124b9ce763ece845b7ab670acf53d7d828df7ff", func := "loop.example/g00175/laws.FnExactHeapPut", spec := "fnExactHeapPut", inPlace := ["internal/bytealg.IndexByteString"], unfollowed := true, recurses := true, apart := false }
def FnExactHeapPutSaid : Prop := fnExactHeapPutRow.holds Tryz.pinned (OpenSpec.ofChange fnExactHeapPutSpec)

/-- ITS FALSE NEIGHBOUR: 'it returns false'. Refute it at one input. -/
def fnExactHeapPutWrong : ChangeSpec := { name := "fnExactHeapPut", fn := fun _ => fun
  | [d1, d2, d3, d4, d5] => { results := [.lit (.bool false)], args := [d1, d2, d3, d4, d5] }
  | _ => none }
def FnExactHeapPutWrongFalsely : Prop := fnExactHeapPutRow.holds Tryz.pinned (OpenSpec.ofChange fnExactHeapPutWrong)

/-- 'laws.FnExactStore': WHATEVER THE INPUT: true; the input reads as it did. -/
def fnExactStoreSpec : ChangeSpec := { name := "fnExactStore", fn := fun _ => fun
  | [d] => { results := [.lit (.bool true)], args := [d] }
  | _ => none }
def fnExactStoreRow : OpenClaim := { program := "ytebbhmbngfpkaaagreat", sum := "0be4ed232f5e12d024dd676ca124b9ce763ece845b7ab670acf53d7d828df7ff", func := "loop.example/g00175/laws.FnExactStore", spec := "fnExactStore", inPlace := ["internal/bytealg.IndexByteString"], unfollowed := true, recurses := true, apart := false }
def FnExactStoreSaid : Prop := fnExactStoreRow.holds Tryz.pinned (OpenSpec.ofChange fnExactStoreSpec)

/-- ITS FALSE NEIGHBOUR: 'it returns false'. Refute it at one input. -/
def fnExactStoreWrong : ChangeSpec := { name := "fnExactStore", fn := fun _ => fun
  | [d] => { results := [.lit (.bool false)], args := [d] }
  | _ => none }
def FnExactStoreWrongFalsely : Prop := fnExactStoreRow.holds Tryz.pinned (OpenSpec.ofChange fnExactStoreWrong)

/- THE SECOND FORM. 'bulk': how many values and letters a reading holds, each counted each time it is reached (what is shared counts as often as it is met; a slice's spare places count too). A statement '..UptoSaid' is the law's where the arguments, and the package variables that the reading takes, are together of bulk at most 1048576: NARROWER than '..Said'. Prove '..Said' where nothing that the law and all that it calls make is longer than what came in: it says more and counts as full. Else prove '..UptoSaid'. A law counts once. -/
mutual
def uptoBulk {H : Type} : DataW H → Nat
  | .lit (.string bytes) => bytes.length + 1
  | .lit _ => 1
  | .nil => 1
  | .ptr d => uptoBulk d + 1
  | .slice elems spare => uptoBulkAll elems + uptoBulkAll spare + 1
  | .agg parts => uptoBulkAll parts + 1
  | .iface _ d => uptoBulk d + 1
  | .map entries => uptoBulkEntries entries + 1
  | .held _ => 1
def uptoBulkAll {H : Type} : List (DataW H) → Nat
  | [] => 0
  | d :: r => uptoBulk d + uptoBulkAll r
def uptoBulkEntries {H : Type} : List (Lit × DataW H) → Nat
  | [] => 0
  | x :: r => uptoBulkEntry x + uptoBulkEntries r
def uptoBulkEntry {H : Type} : Lit × DataW H → Nat
  | (.string bytes, d) => bytes.length + uptoBulk d + 1
  | (_, d) => uptoBulk d + 1
 end
def uptoSmall : (H : Type) → List (DataW H) → Bool := fun _ ds => decide (uptoBulkAll ds ≤ 1048576)
def OpenSpec.upto (s : _root_.Go.ChangeSpec) : _root_.Go.OpenSpec := { _root_.Go.OpenSpec.ofChange s with cond := some uptoSmall }

/-- 'laws.FnExactHeapGet', WHERE WHAT IT READS IS OF BULK AT MOST 1048576: true; the input reads as it did. -/
def fnExactHeapGetUptoRow : OpenClaim := { program := "ytebbhmbngfpkaaagreat", sum := "0be4ed232f5e12d024dd676ca124b9ce763ece845b7ab670acf53d7d828df7ff", func := "loop.example/g00175/laws.FnExactHeapGet", spec := "fnExactHeapGet", inPlace := ["internal/bytealg.IndexByteString"], unfollowed := true, recurses := true, apart := false, narrowed := true }
def FnExactHeapGetUptoSaid : Prop := fnExactHeapGetUptoRow.holds Tryz.pinned (OpenSpec.upto fnExactHeapGetSpec)

/-- 'laws.FnExactHeapMake', WHERE WHAT IT READS IS OF BULK AT MOST 1048576: true; the input reads as it did. -/
def fnExactHeapMakeUptoRow : OpenClaim := { program := "ytebbhmbngfpkaaagreat", sum := "0be4ed232f5e12d024dd676ca124b9ce763ece845b7ab670acf53d7d828df7ff", func := "loop.example/g00175/laws.FnExactHeapMake", spec := "fnExactHeapMake", inPlace := ["internal/bytealg.IndexByteString"], unfollowed := true, recurses := true, apart := false, narrowed := true }
def FnExactHeapMakeUptoSaid : Prop := fnExactHeapMakeUptoRow.holds Tryz.pinned (OpenSpec.upto fnExactHeapMakeSpec)

/-- 'laws.FnExactHeapList', WHERE WHAT IT READS IS OF BULK AT MOST 1048576: true; the input reads as it did. -/
def fnExactHeapListUptoRow : OpenClaim := { program := "ytebbhmbngfpkaaagreat", sum := "0be4ed232f5e12d024dd676ca124b9ce763ece845b7ab670acf53d7d828df7ff", func := "loop.example/g00175/laws.FnExactHeapList", spec := "fnExactHeapList", inPlace := ["internal/bytealg.IndexByteString"], unfollowed := true, recurses := true, apart := false, narrowed := true }
def FnExactHeapListUptoSaid : Prop := fnExactHeapListUptoRow.holds Tryz.pinned (OpenSpec.upto fnExactHeapListSpec)

/-- 'laws.FnExactHeapPut', WHERE WHAT IT READS IS OF BULK AT MOST 1048576: true; the input reads as it did. -/
def fnExactHeapPutUptoRow : OpenClaim := { program := "ytebbhmbngfpkaaagreat", sum := "0be4ed232f5e12d024dd676ca124b9ce763ece845b7ab670acf53d7d828df7ff", func := "loop.example/g00175/laws.FnExactHeapPut", spec := "fnExactHeapPut", inPlace := ["internal/bytealg.IndexByteString"], unfollowed := true, recurses := true, apart := false, narrowed := true }
def FnExactHeapPutUptoSaid : Prop := fnExactHeapPutUptoRow.holds Tryz.pinned (OpenSpec.upto fnExactHeapPutSpec)

/-- 'laws.FnExactStore', WHERE WHAT IT READS IS OF BULK AT MOST 1048576: true; the input reads as it did. -/
def fnExactStoreUptoRow : OpenClaim := { program := "ytebbhmbngfpkaaagreat", sum := "0be4ed232f5e12d024dd676ca124b9ce763ece845b7ab670acf53d7d828df7ff", func := "loop.example/g00175/laws.FnExactStore", spec := "fnExactStore", inPlace := ["internal/bytealg.IndexByteString"], unfollowed := true, recurses := true, apart := false, narrowed := true }
def FnExactStoreUptoSaid : Prop := fnExactStoreUptoRow.holds Tryz.pinned (OpenSpec.upto fnExactStoreSpec)

end Rows
end Go.Proofs.YtebbhmbngfpkaaaGreat
