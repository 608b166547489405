/-
  No cell of these rows narrows 'for every input' (looked for: loops, veiled, ifaces, maps, wideKeys, modest, calm, conditions, laid).
  DERIVED. THE GIVEN ROWS OF THIS SEAT. 7 by the template 'for every input the law returns true; each argument reads behind the call as it read before'; 0 by the template 'total and deterministic' (their statements: YtllcfbgmhgodhaaGreatTotals.lean).
  GIVEN WITH THE SEED: the statements are not yours to turn. If you find one false, say at which input.
  Laid BY PROGRAM, IN A SANDBOX (cutbox-rows.mjs): the forced cells as the released guide's own fill.sh prints them over the translation b8722a8bbf991c67… (all of the seat's roots in one cut). By AI agents, Wed Nov 11 2026. No macro, syntax, notation, axiom, sorry.
-/
import Derived.Test.YtllcfbgmhgodhaaGreatChecked
import GoSem.Claim
import GoSem.ClaimJoined
import GoSem.ClaimMapViews
import Derived.JoinedTies
import Derived.KernelRfl
namespace Go.Proofs.YtllcfbgmhgodhaaGreat
/- THE CELL 'sum', in the pinned program and in every row, IS THE sha256 OF THE DUMP (.gsa) THAT YtllcfbgmhgodhaaGreatProg.lean LOADS. Nothing in Lean hashes anything: it is a label: what it is worth is what the hold of that sum in a sandbox is worth. -/
noncomputable def Tryz.pinned : Pinned := { name := "ytllcfbgmhgodhaagreat", sum := "b8722a8bbf991c677b77139b0204ac0a450bd71c4fd5d013c85a5ab8290a0cd8", checked := Tryz.checked }
namespace Rows
def none {H : Type} : Left H := { results := [], args := [] }

/-- 'laws.FnExactHeapDeliver': WHATEVER THE INPUT: true; the input reads as it did. -/
def fnExactHeapDeliverSpec : ChangeSpec := { name := "fnExactHeapDeliver", fn := fun _ => fun
  | [d1, d2] => { results := [.lit (.bool true)], args := [d1, d2] }
  | _ => none }
def fnExactHeapDeliverRow : OpenClaim := { program := "ytllcfbgmhgodhaagreat", sum := "b8722a8bbf991c677b77139b0204ac0a450bd71c4fd5d013c85a5ab8290a0cd8", func := "loop.example/g00978/laws.FnExactHeapDeliver", spec := "fnExactHeapDeliver", unfollowed := true, recurses := true, apart := false }
def FnExactHeapDeliverSaid : Prop := fnExactHeapDeliverRow.holds Tryz.pinned (OpenSpec.ofChange fnExactHeapDeliverSpec)

/-- ITS FALSE NEIGHBOUR: 'it returns false'. Refute it at one input. -/
def fnExactHeapDeliverWrong : ChangeSpec := { name := "fnExactHeapDeliver", fn := fun _ => fun
  | [d1, d2] => { results := [.lit (.bool false)], args := [d1, d2] }
  | _ => none }
def FnExactHeapDeliverWrongFalsely : Prop := fnExactHeapDeliverRow.holds Tryz.pinned (OpenSpec.ofChange fnExactHeapDeliverWrong)

/-- 'laws.FnExactHeapStore': WHATEVER THE INPUT: true; the input reads as it did. -/
def fnExactHeapStoreSpec : ChangeSpec := { name := "fnExactHeapStore", fn := fun _ => fun
  | [d1, d2, d3] => { results := [.lit (.bool true)], args := [d1, d2, d3] }
  | _ => none }
def fnExactHeapStoreRow : OpenClaim := { program := "ytllcfbgmhgodhaagreat", sum := "b8722a8bbf991c677b77139b0204ac0a450bd71c4fd5d013c85a5ab8290a0cd8", func := "loop.example/g00978/laws.FnExactHeapStore", spec := "fnExactHeapStore", unfollowed := true, recurses := true, apart := false }
def FnExactHeapStoreSaid : Prop := fnExactHeapStoreRow.holds Tryz.pinned (OpenSpec.ofChange fnExactHeapStoreSpec)

/-- ITS FALSE NEIGHBOUR: 'it returns false'. Refute it at one input. -/
def fnExactHeapStoreWrong : ChangeSpec := { name := "fnExactHeapStore", fn := fun _ => fun
  | [d1, d2, d3] => { results := [.lit (.bool false)], args := [d1, d2, d3] }
  | _ => none }
def FnExactHeapStoreWrongFalsely : Prop := fnExactHeapStoreRow.holds Tryz.pinned (OpenSpec.ofChange fnExactHeapStoreWrong)

/-- 'laws.FnExactGivePage': WHATEVER THE INPUT: true; the input reads as it did. -/
def fnExactGivePageSpec : ChangeSpec := { name := "fnExactGivePage", fn := fun _ => fun
  | [d1, d2] => { results := [.lit (.bool true)], args := [d1, d2] }
  | _ => none }
def fnExactGivePageRow : OpenClaim := { program := "ytllcfbgmhgodhaagreat", sum := "b8722a8bbf991c677b77139b0204ac0a450bd71c4fd5d013c85a5ab8290a0cd8", func := "loop.example/g00978/laws.FnExactGivePage", spec := "fnExactGivePage", unfollowed := true, recurses := true, apart := false }
def FnExactGivePageSaid : Prop := fnExactGivePageRow.holds Tryz.pinned (OpenSpec.ofChange fnExactGivePageSpec)

/-- ITS FALSE NEIGHBOUR: 'it returns false'. Refute it at one input. -/
def fnExactGivePageWrong : ChangeSpec := { name := "fnExactGivePage", fn := fun _ => fun
  | [d1, d2] => { results := [.lit (.bool false)], args := [d1, d2] }
  | _ => none }
def FnExactGivePageWrongFalsely : Prop := fnExactGivePageRow.holds Tryz.pinned (OpenSpec.ofChange fnExactGivePageWrong)

/-- 'laws.FnExactHeapTrim': WHATEVER THE INPUT: true; the input reads as it did. -/
def fnExactHeapTrimSpec : ChangeSpec := { name := "fnExactHeapTrim", fn := fun _ => fun
  | [d1, d2, d3] => { results := [.lit (.bool true)], args := [d1, d2, d3] }
  | _ => none }
def fnExactHeapTrimRow : OpenClaim := { program := "ytllcfbgmhgodhaagreat", sum := "b8722a8bbf991c677b77139b0204ac0a450bd71c4fd5d013c85a5ab8290a0cd8", func := "loop.example/g00978/laws.FnExactHeapTrim", spec := "fnExactHeapTrim", unfollowed := true, recurses := true, apart := false }
def FnExactHeapTrimSaid : Prop := fnExactHeapTrimRow.holds Tryz.pinned (OpenSpec.ofChange fnExactHeapTrimSpec)

/-- ITS FALSE NEIGHBOUR: 'it returns false'. Refute it at one input. -/
def fnExactHeapTrimWrong : ChangeSpec := { name := "fnExactHeapTrim", fn := fun _ => fun
  | [d1, d2, d3] => { results := [.lit (.bool false)], args := [d1, d2, d3] }
  | _ => none }
def FnExactHeapTrimWrongFalsely : Prop := fnExactHeapTrimRow.holds Tryz.pinned (OpenSpec.ofChange fnExactHeapTrimWrong)

/-- 'laws.FnExactMeshStart': WHATEVER THE INPUT: true; the input reads as it did. -/
def fnExactMeshStartSpec : ChangeSpec := { name := "fnExactMeshStart", fn := fun _ => fun
  | [d] => { results := [.lit (.bool true)], args := [d] }
  | _ => none }
def fnExactMeshStartRow : OpenClaim := { program := "ytllcfbgmhgodhaagreat", sum := "b8722a8bbf991c677b77139b0204ac0a450bd71c4fd5d013c85a5ab8290a0cd8", func := "loop.example/g00978/laws.FnExactMeshStart", spec := "fnExactMeshStart", unfollowed := true, recurses := true, apart := false }
def FnExactMeshStartSaid : Prop := fnExactMeshStartRow.holds Tryz.pinned (OpenSpec.ofChange fnExactMeshStartSpec)

/-- ITS FALSE NEIGHBOUR: 'it returns false'. Refute it at one input. -/
def fnExactMeshStartWrong : ChangeSpec := { name := "fnExactMeshStart", fn := fun _ => fun
  | [d] => { results := [.lit (.bool false)], args := [d] }
  | _ => none }
def FnExactMeshStartWrongFalsely : Prop := fnExactMeshStartRow.holds Tryz.pinned (OpenSpec.ofChange fnExactMeshStartWrong)

/-- 'laws.FnExactHeapTick': WHATEVER THE INPUT: true; the input reads as it did. -/
def fnExactHeapTickSpec : ChangeSpec := { name := "fnExactHeapTick", fn := fun _ => fun
  | [d1, d2] => { results := [.lit (.bool true)], args := [d1, d2] }
  | _ => none }
def fnExactHeapTickRow : OpenClaim := { program := "ytllcfbgmhgodhaagreat", sum := "b8722a8bbf991c677b77139b0204ac0a450bd71c4fd5d013c85a5ab8290a0cd8", func := "loop.example/g00978/laws.FnExactHeapTick", spec := "fnExactHeapTick", unfollowed := true, recurses := true, apart := false }
def FnExactHeapTickSaid : Prop := fnExactHeapTickRow.holds Tryz.pinned (OpenSpec.ofChange fnExactHeapTickSpec)

/-- ITS FALSE NEIGHBOUR: 'it returns false'. Refute it at one input. -/
def fnExactHeapTickWrong : ChangeSpec := { name := "fnExactHeapTick", fn := fun _ => fun
  | [d1, d2] => { results := [.lit (.bool false)], args := [d1, d2] }
  | _ => none }
def FnExactHeapTickWrongFalsely : Prop := fnExactHeapTickRow.holds Tryz.pinned (OpenSpec.ofChange fnExactHeapTickWrong)

/-- 'laws.FnExactMeshStep': WHATEVER THE INPUT: true; the input reads as it did. -/
def fnExactMeshStepSpec : ChangeSpec := { name := "fnExactMeshStep", fn := fun _ => fun
  | [d] => { results := [.lit (.bool true)], args := [d] }
  | _ => none }
def fnExactMeshStepRow : OpenClaim := { program := "ytllcfbgmhgodhaagreat", sum := "b8722a8bbf991c677b77139b0204ac0a450bd71c4fd5d013c85a5ab8290a0cd8", func := "loop.example/g00978/laws.FnExactMeshStep", spec := "fnExactMeshStep", unfollowed := true, recurses := true, apart := false }
def FnExactMeshStepSaid : Prop := fnExactMeshStepRow.holds Tryz.pinned (OpenSpec.ofChange fnExactMeshStepSpec)

/-- ITS FALSE NEIGHBOUR: 'it returns false'. Refute it at one input. -/
def fnExactMeshStepWrong : ChangeSpec := { name := "fnExactMeshStep", fn := fun _ => fun
  | [d] => { results := [.lit (.bool false)], args := [d] }
  | _ => none }
def FnExactMeshStepWrongFalsely : Prop := fnExactMeshStepRow.holds Tryz.pinned (OpenSpec.ofChange fnExactMeshStepWrong)

/- THE SECOND FORM. 'bulk': how many values and letters a reading holds, each counted each time it is reached (what is shared counts as often as it is met; a slice's spare places count too). A statement '..UptoSaid' is the law's where the arguments, and the package variables that the reading takes, are together of bulk at most 1048576: NARROWER than '..Said'. Prove '..Said' where nothing that the law and all that it calls make is longer than what came in: it says more and counts as full. Else prove '..UptoSaid'. A law counts once. -/
mutual
def uptoBulk {H : Type} : DataW H → Nat
  | .lit (.string bytes) => bytes.length + 1
  | .lit _ => 1
  | .nil => 1
  | .ptr d => uptoBulk d + 1
  | .slice elems spare => uptoBulkAll elems + uptoBulkAll spare + 1
  | .agg parts => uptoBulkAll parts + 1
  | .iface _ d => uptoBulk d + 1
  | .map entries => uptoBulkEntries entries + 1
  | .held _ => 1
def uptoBulkAll {H : Type} : List (DataW H) → Nat
  | [] => 0
  | d :: r => uptoBulk d + uptoBulkAll r
def uptoBulkEntries {H : Type} : List (Lit × DataW H) → Nat
  | [] => 0
  | x :: r => uptoBulkEntry x + uptoBulkEntries r
def uptoBulkEntry {H : Type} : Lit × DataW H → Nat
  | (.string bytes, d) => bytes.length + uptoBulk d + 1
  | (_, d) => uptoBulk d + 1
 end
def uptoSmall : (H : Type) → List (DataW H) → Bool := fun _ ds => decide (uptoBulkAll ds ≤ 1048576)
def OpenSpec.upto (s : _root_.Go.ChangeSpec) : _root_.Go.OpenSpec := { _root_.Go.OpenSpec.ofChange s with cond := some uptoSmall }

/-- 'laws.FnExactHeapDeliver', WHERE WHAT IT READS IS OF BULK AT MOST 1048576: true; the input reads as it did. -/
def fnExactHeapDeliverUptoRow : OpenClaim := { program := "ytllcfbgmhgodhaagreat", sum := "b8722a8bbf991c677b77139b0204ac0a450bd71c4fd5d013c85a5ab8290a0cd8", func := "loop.example/g00978/laws.FnExactHeapDeliver", spec := "fnExactHeapDeliver", unfollowed := true, recurses := true, apart := false, narrowed := true }
def FnExactHeapDeliverUptoSaid : Prop := fnExactHeapDeliverUptoRow.holds Tryz.pinned (OpenSpec.upto fnExactHeapDeliverSpec)

/-- 'laws.FnExactHeapStore', WHERE WHAT IT READS IS OF BULK AT MOST 1048576: true; the input reads as it did. -/
def fnExactHeapStoreUptoRow : OpenClaim := { program := "ytllcfbgmhgodhaagreat", sum := "b8722a8bbf991c677b77139b0204ac0a450bd71c4fd5d013c85a5ab8290a0cd8", func := "loop.example/g00978/laws.FnExactHeapStore", spec := "fnExactHeapStore", unfollowed := true, recurses := true, apart := false, narrowed := true }
def FnExactHeapStoreUptoSaid : Prop := fnExactHeapStoreUptoRow.holds Tryz.pinned (OpenSpec.upto fnExactHeapStoreSpec)

/-- 'laws.FnExactGivePage', WHERE WHAT IT READS IS OF BULK AT MOST 1048576: true; the input reads as it did. -/
def fnExactGivePageUptoRow : OpenClaim := { program := "ytllcfbgmhgodhaagreat", sum := "b8722a8bbf991c677b77139b0204ac0a450bd71c4fd5d013c85a5ab8290a0cd8", func := "loop.example/g00978/laws.FnExactGivePage", spec := "fnExactGivePage", unfollowed := true, recurses := true, apart := false, narrowed := true }
def FnExactGivePageUptoSaid : Prop := fnExactGivePageUptoRow.holds Tryz.pinned (OpenSpec.upto fnExactGivePageSpec)

/-- 'laws.FnExactHeapTrim', WHERE WHAT IT READS IS OF BULK AT MOST 1048576: true; the input reads as it did. -/
def fnExactHeapTrimUptoRow : OpenClaim := { program := "ytllcfbgmhgodhaagreat", sum := "b8722a8bbf991c677b77139b0204ac0a450bd71c4fd5d013c85a5ab8290a0cd8", func := "loop.example/g00978/laws.FnExactHeapTrim", spec := "fnExactHeapTrim", unfollowed := true, recurses := true, apart := false, narrowed := true }
def FnExactHeapTrimUptoSaid : Prop := fnExactHeapTrimUptoRow.holds Tryz.pinned (OpenSpec.upto fnExactHeapTrimSpec)

/-- 'laws.FnExactMeshStart', WHERE WHAT IT READS IS OF BULK AT MOST 1048576: true; the input reads as it did. -/
def fnExactMeshStartUptoRow : OpenClaim := { program := "ytllcfbgmhgodhaagreat", sum := "b8722a8bbf991c677b77139b0204ac0a450bd71c4fd5d013c85a5ab8290a0cd8", func := "loop.example/g00978/laws.FnExactMeshStart", spec := "fnExactMeshStart", unfollowed := true, recurses := true, apart := false, narrowed := true }
def FnExactMeshStartUptoSaid : Prop := fnExactMeshStartUptoRow.holds Tryz.pinned (OpenSpec.upto fnExactMeshStartSpec)

/-- 'laws.FnExactHeapTick', WHERE WHAT IT READS IS OF BULK AT MOST 1048576: true; the input reads as it did. -/
def fnExactHeapTickUptoRow : OpenClaim := { program := "ytllcfbgmhgodhaagreat", sum := "b8722a8bbf991c677b77139b0204ac0a450bd71c4fd5d013c85a5ab8290a0cd8", func := "loop.example/g00978/laws.FnExactHeapTick", spec := "fnExactHeapTick", unfollowed := true, recurses := true, apart := false, narrowed := true }
def FnExactHeapTickUptoSaid : Prop := fnExactHeapTickUptoRow.holds Tryz.pinned (OpenSpec.upto fnExactHeapTickSpec)

/-- 'laws.FnExactMeshStep', WHERE WHAT IT READS IS OF BULK AT MOST 1048576: true; the input reads as it did. -/
def fnExactMeshStepUptoRow : OpenClaim := { program := "ytllcfbgmhgodhaagreat", sum := "b8722a8bbf991c677b77139b0204ac0a450bd71c4fd5d013c85a5ab8290a0cd8", func := "loop.example/g00978/laws.FnExactMeshStep", spec := "fnExactMeshStep", unfollowed := true, recurses := true, apart := false, narrowed := true }
def FnExactMeshStepUptoSaid : Prop := fnExactMeshStepUptoRow.holds Tryz.pinned (OpenSpec.upto fnExactMeshStepSpec)

end Rows
end Go.Proofs.YtllcfbgmhgodhaaGreat
