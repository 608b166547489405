/-
  No cell of these rows narrows 'for every input' (looked for: loops, veiled, ifaces, maps, wideKeys, modest, calm, conditions, laid).
  DERIVED. THE GIVEN ROWS OF THIS SEAT. 10 by the template 'for every input the law returns true; each argument reads behind the call as it read before'; 0 by the template 'total and deterministic' (their statements: YtkmjkkefandjnaaTotals.lean).
  GIVEN WITH THE SEED: the statements are not yours to turn. If you find one false, say at which input.
  Laid BY PROGRAM, IN A SANDBOX (cutbox-rows.mjs): the forced cells as the released guide's own fill.sh prints them over the translation 22ffb204a6148934… (all of the seat's roots in one cut). By AI agents, Wed Nov 11 2026. No macro, syntax, notation, axiom, sorry.
-/
import Derived.Test.YtkmjkkefandjnaaChecked
import GoSem.Claim
import GoSem.ClaimJoined
import GoSem.ClaimMapViews
import Derived.JoinedTies
import Derived.KernelRfl
namespace Go.Proofs.Ytkmjkkefandjnaa
/- THE CELL 'sum', in the pinned program and in every row, IS THE sha256 OF THE DUMP (.gsa) THAT YtkmjkkefandjnaaProg.lean LOADS. Nothing in Lean hashes anything: it is a label: what it is worth is what the hold of that sum in a sandbox is worth. -/
noncomputable def Try.pinned : Pinned := { name := "ytkmjkkefandjnaa", sum := "22ffb204a61489346e9efb6d94ef4b12d873d49ca5ca20616ba0d2b753ceb03f", checked := Try.checked }
namespace Rows
def none {H : Type} : Left H := { results := [], args := [] }

/-- 'laws.FnForkDropped': WHATEVER THE INPUT: true; the input reads as it did. -/
def fnForkDroppedSpec : ChangeSpec := { name := "fnForkDropped", fn := fun _ => fun
  | [d] => { results := [.lit (.bool true)], args := [d] }
  | _ => none }
def fnForkDroppedRow : OpenClaim := { program := "ytkmjkkefandjnaa", sum := "22ffb204a61489346e9efb6d94ef4b12d873d49ca5ca20616ba0d2b753ceb03f", func := "loop.example/g00978/laws.FnForkDropped", spec := "fnForkDropped", apart := false }
def FnForkDroppedSaid : Prop := fnForkDroppedRow.holds Try.pinned (OpenSpec.ofChange fnForkDroppedSpec)

/-- ITS FALSE NEIGHBOUR: 'it returns false'. Refute it at one input. -/
def fnForkDroppedWrong : ChangeSpec := { name := "fnForkDropped", fn := fun _ => fun
  | [d] => { results := [.lit (.bool false)], args := [d] }
  | _ => none }
def FnForkDroppedWrongFalsely : Prop := fnForkDroppedRow.holds Try.pinned (OpenSpec.ofChange fnForkDroppedWrong)

/-- 'laws.FnForks': WHATEVER THE INPUT: true; the input reads as it did. -/
def fnForksSpec : ChangeSpec := { name := "fnForks", fn := fun _ => fun
  | [d] => { results := [.lit (.bool true)], args := [d] }
  | _ => none }
def fnForksRow : OpenClaim := { program := "ytkmjkkefandjnaa", sum := "22ffb204a61489346e9efb6d94ef4b12d873d49ca5ca20616ba0d2b753ceb03f", func := "loop.example/g00978/laws.FnForks", spec := "fnForks", apart := false }
def FnForksSaid : Prop := fnForksRow.holds Try.pinned (OpenSpec.ofChange fnForksSpec)

/-- ITS FALSE NEIGHBOUR: 'it returns false'. Refute it at one input. -/
def fnForksWrong : ChangeSpec := { name := "fnForks", fn := fun _ => fun
  | [d] => { results := [.lit (.bool false)], args := [d] }
  | _ => none }
def FnForksWrongFalsely : Prop := fnForksRow.holds Try.pinned (OpenSpec.ofChange fnForksWrong)

/-- 'laws.FnExactCowOk': WHATEVER THE INPUT: true; the input reads as it did. -/
def fnExactCowOkSpec : ChangeSpec := { name := "fnExactCowOk", fn := fun _ => fun
  | [d] => { results := [.lit (.bool true)], args := [d] }
  | _ => none }
def fnExactCowOkRow : OpenClaim := { program := "ytkmjkkefandjnaa", sum := "22ffb204a61489346e9efb6d94ef4b12d873d49ca5ca20616ba0d2b753ceb03f", func := "loop.example/g00978/laws.FnExactCowOk", spec := "fnExactCowOk", apart := false }
def FnExactCowOkSaid : Prop := fnExactCowOkRow.holds Try.pinned (OpenSpec.ofChange fnExactCowOkSpec)

/-- ITS FALSE NEIGHBOUR: 'it returns false'. Refute it at one input. -/
def fnExactCowOkWrong : ChangeSpec := { name := "fnExactCowOk", fn := fun _ => fun
  | [d] => { results := [.lit (.bool false)], args := [d] }
  | _ => none }
def FnExactCowOkWrongFalsely : Prop := fnExactCowOkRow.holds Try.pinned (OpenSpec.ofChange fnExactCowOkWrong)

/-- 'laws.FnExactCowShared': WHATEVER THE INPUT: true; the input reads as it did. -/
def fnExactCowSharedSpec : ChangeSpec := { name := "fnExactCowShared", fn := fun _ => fun
  | [d] => { results := [.lit (.bool true)], args := [d] }
  | _ => none }
def fnExactCowSharedRow : OpenClaim := { program := "ytkmjkkefandjnaa", sum := "22ffb204a61489346e9efb6d94ef4b12d873d49ca5ca20616ba0d2b753ceb03f", func := "loop.example/g00978/laws.FnExactCowShared", spec := "fnExactCowShared", apart := false }
def FnExactCowSharedSaid : Prop := fnExactCowSharedRow.holds Try.pinned (OpenSpec.ofChange fnExactCowSharedSpec)

/-- ITS FALSE NEIGHBOUR: 'it returns false'. Refute it at one input. -/
def fnExactCowSharedWrong : ChangeSpec := { name := "fnExactCowShared", fn := fun _ => fun
  | [d] => { results := [.lit (.bool false)], args := [d] }
  | _ => none }
def FnExactCowSharedWrongFalsely : Prop := fnExactCowSharedRow.holds Try.pinned (OpenSpec.ofChange fnExactCowSharedWrong)

/-- 'laws.FnExactCowLoad': WHATEVER THE INPUT: true; the input reads as it did. -/
def fnExactCowLoadSpec : ChangeSpec := { name := "fnExactCowLoad", fn := fun _ => fun
  | [d1, d2, d3] => { results := [.lit (.bool true)], args := [d1, d2, d3] }
  | _ => none }
def fnExactCowLoadRow : OpenClaim := { program := "ytkmjkkefandjnaa", sum := "22ffb204a61489346e9efb6d94ef4b12d873d49ca5ca20616ba0d2b753ceb03f", func := "loop.example/g00978/laws.FnExactCowLoad", spec := "fnExactCowLoad", apart := false }
def FnExactCowLoadSaid : Prop := fnExactCowLoadRow.holds Try.pinned (OpenSpec.ofChange fnExactCowLoadSpec)

/-- ITS FALSE NEIGHBOUR: 'it returns false'. Refute it at one input. -/
def fnExactCowLoadWrong : ChangeSpec := { name := "fnExactCowLoad", fn := fun _ => fun
  | [d1, d2, d3] => { results := [.lit (.bool false)], args := [d1, d2, d3] }
  | _ => none }
def FnExactCowLoadWrongFalsely : Prop := fnExactCowLoadRow.holds Try.pinned (OpenSpec.ofChange fnExactCowLoadWrong)

/-- 'laws.FnForkFrames': WHATEVER THE INPUT: true; the input reads as it did. -/
def fnForkFramesSpec : ChangeSpec := { name := "fnForkFrames", fn := fun _ => fun
  | [d] => { results := [.lit (.bool true)], args := [d] }
  | _ => none }
def fnForkFramesRow : OpenClaim := { program := "ytkmjkkefandjnaa", sum := "22ffb204a61489346e9efb6d94ef4b12d873d49ca5ca20616ba0d2b753ceb03f", func := "loop.example/g00978/laws.FnForkFrames", spec := "fnForkFrames", apart := false }
def FnForkFramesSaid : Prop := fnForkFramesRow.holds Try.pinned (OpenSpec.ofChange fnForkFramesSpec)

/-- ITS FALSE NEIGHBOUR: 'it returns false'. Refute it at one input. -/
def fnForkFramesWrong : ChangeSpec := { name := "fnForkFrames", fn := fun _ => fun
  | [d] => { results := [.lit (.bool false)], args := [d] }
  | _ => none }
def FnForkFramesWrongFalsely : Prop := fnForkFramesRow.holds Try.pinned (OpenSpec.ofChange fnForkFramesWrong)

/-- 'laws.FnExactCowNew': WHATEVER THE INPUT: true; the input reads as it did. -/
def fnExactCowNewSpec : ChangeSpec := { name := "fnExactCowNew", fn := fun _ => fun
  | [d] => { results := [.lit (.bool true)], args := [d] }
  | _ => none }
def fnExactCowNewRow : OpenClaim := { program := "ytkmjkkefandjnaa", sum := "22ffb204a61489346e9efb6d94ef4b12d873d49ca5ca20616ba0d2b753ceb03f", func := "loop.example/g00978/laws.FnExactCowNew", spec := "fnExactCowNew", apart := false }
def FnExactCowNewSaid : Prop := fnExactCowNewRow.holds Try.pinned (OpenSpec.ofChange fnExactCowNewSpec)

/-- ITS FALSE NEIGHBOUR: 'it returns false'. Refute it at one input. -/
def fnExactCowNewWrong : ChangeSpec := { name := "fnExactCowNew", fn := fun _ => fun
  | [d] => { results := [.lit (.bool false)], args := [d] }
  | _ => none }
def FnExactCowNewWrongFalsely : Prop := fnExactCowNewRow.holds Try.pinned (OpenSpec.ofChange fnExactCowNewWrong)

/-- 'laws.FnExactCowDrop': WHATEVER THE INPUT: true; the input reads as it did. -/
def fnExactCowDropSpec : ChangeSpec := { name := "fnExactCowDrop", fn := fun _ => fun
  | [d1, d2] => { results := [.lit (.bool true)], args := [d1, d2] }
  | _ => none }
def fnExactCowDropRow : OpenClaim := { program := "ytkmjkkefandjnaa", sum := "22ffb204a61489346e9efb6d94ef4b12d873d49ca5ca20616ba0d2b753ceb03f", func := "loop.example/g00978/laws.FnExactCowDrop", spec := "fnExactCowDrop", apart := false }
def FnExactCowDropSaid : Prop := fnExactCowDropRow.holds Try.pinned (OpenSpec.ofChange fnExactCowDropSpec)

/-- ITS FALSE NEIGHBOUR: 'it returns false'. Refute it at one input. -/
def fnExactCowDropWrong : ChangeSpec := { name := "fnExactCowDrop", fn := fun _ => fun
  | [d1, d2] => { results := [.lit (.bool false)], args := [d1, d2] }
  | _ => none }
def FnExactCowDropWrongFalsely : Prop := fnExactCowDropRow.holds Try.pinned (OpenSpec.ofChange fnExactCowDropWrong)

/-- 'laws.FnExactSetGuards': WHATEVER THE INPUT: true; the input reads as it did. -/
def fnExactSetGuardsSpec : ChangeSpec := { name := "fnExactSetGuards", fn := fun _ => fun
  | [d1, d2, d3] => { results := [.lit (.bool true)], args := [d1, d2, d3] }
  | _ => none }
def fnExactSetGuardsRow : OpenClaim := { program := "ytkmjkkefandjnaa", sum := "22ffb204a61489346e9efb6d94ef4b12d873d49ca5ca20616ba0d2b753ceb03f", func := "loop.example/g00978/laws.FnExactSetGuards", spec := "fnExactSetGuards", apart := false }
def FnExactSetGuardsSaid : Prop := fnExactSetGuardsRow.holds Try.pinned (OpenSpec.ofChange fnExactSetGuardsSpec)

/-- ITS FALSE NEIGHBOUR: 'it returns false'. Refute it at one input. -/
def fnExactSetGuardsWrong : ChangeSpec := { name := "fnExactSetGuards", fn := fun _ => fun
  | [d1, d2, d3] => { results := [.lit (.bool false)], args := [d1, d2, d3] }
  | _ => none }
def FnExactSetGuardsWrongFalsely : Prop := fnExactSetGuardsRow.holds Try.pinned (OpenSpec.ofChange fnExactSetGuardsWrong)

/-- 'laws.FnExactCowStore': WHATEVER THE INPUT: true; the input reads as it did. -/
def fnExactCowStoreSpec : ChangeSpec := { name := "fnExactCowStore", fn := fun _ => fun
  | [d1, d2, d3, d4] => { results := [.lit (.bool true)], args := [d1, d2, d3, d4] }
  | _ => none }
def fnExactCowStoreRow : OpenClaim := { program := "ytkmjkkefandjnaa", sum := "22ffb204a61489346e9efb6d94ef4b12d873d49ca5ca20616ba0d2b753ceb03f", func := "loop.example/g00978/laws.FnExactCowStore", spec := "fnExactCowStore", apart := false }
def FnExactCowStoreSaid : Prop := fnExactCowStoreRow.holds Try.pinned (OpenSpec.ofChange fnExactCowStoreSpec)

/-- ITS FALSE NEIGHBOUR: 'it returns false'. Refute it at one input. -/
def fnExactCowStoreWrong : ChangeSpec := { name := "fnExactCowStore", fn := fun _ => fun
  | [d1, d2, d3, d4] => { results := [.lit (.bool false)], args := [d1, d2, d3, d4] }
  | _ => none }
def FnExactCowStoreWrongFalsely : Prop := fnExactCowStoreRow.holds Try.pinned (OpenSpec.ofChange fnExactCowStoreWrong)

/- THE SECOND FORM. 'bulk': how many values and letters a reading holds, each counted each time it is reached (what is shared counts as often as it is met; a slice's spare places count too). A statement '..UptoSaid' is the law's where the arguments, and the package variables that the reading takes, are together of bulk at most 1048576: NARROWER than '..Said'. Prove '..Said' where nothing that the law and all that it calls make is longer than what came in: it says more and counts as full. Else prove '..UptoSaid'. A law counts once. -/
mutual
def uptoBulk {H : Type} : DataW H → Nat
  | .lit (.string bytes) => bytes.length + 1
  | .lit _ => 1
  | .nil => 1
  | .ptr d => uptoBulk d + 1
  | .slice elems spare => uptoBulkAll elems + uptoBulkAll spare + 1
  | .agg parts => uptoBulkAll parts + 1
  | .iface _ d => uptoBulk d + 1
  | .map entries => uptoBulkEntries entries + 1
  | .held _ => 1
def uptoBulkAll {H : Type} : List (DataW H) → Nat
  | [] => 0
  | d :: r => uptoBulk d + uptoBulkAll r
def uptoBulkEntries {H : Type} : List (Lit × DataW H) → Nat
  | [] => 0
  | x :: r => uptoBulkEntry x + uptoBulkEntries r
def uptoBulkEntry {H : Type} : Lit × DataW H → Nat
  | (.string bytes, d) => bytes.length + uptoBulk d + 1
  | (_, d) => uptoBulk d + 1
 end
def uptoSmall : (H : Type) → List (DataW H) → Bool := fun _ ds => decide (uptoBulkAll ds ≤ 1048576)
def OpenSpec.upto (s : _root_.Go.ChangeSpec) : _root_.Go.OpenSpec := { _root_.Go.OpenSpec.ofChange s with cond := some uptoSmall }

/-- 'laws.FnForkDropped', WHERE WHAT IT READS IS OF BULK AT MOST 1048576: true; the input reads as it did. -/
def fnForkDroppedUptoRow : OpenClaim := { program := "ytkmjkkefandjnaa", sum := "22ffb204a61489346e9efb6d94ef4b12d873d49ca5ca20616ba0d2b753ceb03f", func := "loop.example/g00978/laws.FnForkDropped", spec := "fnForkDropped", apart := false, narrowed := true }
def FnForkDroppedUptoSaid : Prop := fnForkDroppedUptoRow.holds Try.pinned (OpenSpec.upto fnForkDroppedSpec)

/-- 'laws.FnForks', WHERE WHAT IT READS IS OF BULK AT MOST 1048576: true; the input reads as it did. -/
def fnForksUptoRow : OpenClaim := { program := "ytkmjkkefandjnaa", sum := "22ffb204a61489346e9efb6d94ef4b12d873d49ca5ca20616ba0d2b753ceb03f", func := "loop.example/g00978/laws.FnForks", spec := "fnForks", apart := false, narrowed := true }
def FnForksUptoSaid : Prop := fnForksUptoRow.holds Try.pinned (OpenSpec.upto fnForksSpec)

/-- 'laws.FnExactCowOk', WHERE WHAT IT READS IS OF BULK AT MOST 1048576: true; the input reads as it did. -/
def fnExactCowOkUptoRow : OpenClaim := { program := "ytkmjkkefandjnaa", sum := "22ffb204a61489346e9efb6d94ef4b12d873d49ca5ca20616ba0d2b753ceb03f", func := "loop.example/g00978/laws.FnExactCowOk", spec := "fnExactCowOk", apart := false, narrowed := true }
def FnExactCowOkUptoSaid : Prop := fnExactCowOkUptoRow.holds Try.pinned (OpenSpec.upto fnExactCowOkSpec)

/-- 'laws.FnExactCowShared', WHERE WHAT IT READS IS OF BULK AT MOST 1048576: true; the input reads as it did. -/
def fnExactCowSharedUptoRow : OpenClaim := { program := "ytkmjkkefandjnaa", sum := "22ffb204a61489346e9efb6d94ef4b12d873d49ca5ca20616ba0d2b753ceb03f", func := "loop.example/g00978/laws.FnExactCowShared", spec := "fnExactCowShared", apart := false, narrowed := true }
def FnExactCowSharedUptoSaid : Prop := fnExactCowSharedUptoRow.holds Try.pinned (OpenSpec.upto fnExactCowSharedSpec)

/-- 'laws.FnExactCowLoad', WHERE WHAT IT READS IS OF BULK AT MOST 1048576: true; the input reads as it did. -/
def fnExactCowLoadUptoRow : OpenClaim := { program := "ytkmjkkefandjnaa", sum := "22ffb204a61489346e9efb6d94ef4b12d873d49ca5ca20616ba0d2b753ceb03f", func := "loop.example/g00978/laws.FnExactCowLoad", spec := "fnExactCowLoad", apart := false, narrowed := true }
def FnExactCowLoadUptoSaid : Prop := fnExactCowLoadUptoRow.holds Try.pinned (OpenSpec.upto fnExactCowLoadSpec)

/-- 'laws.FnForkFrames', WHERE WHAT IT READS IS OF BULK AT MOST 1048576: true; the input reads as it did. -/
def fnForkFramesUptoRow : OpenClaim := { program := "ytkmjkkefandjnaa", sum := "22ffb204a61489346e9efb6d94ef4b12d873d49ca5ca20616ba0d2b753ceb03f", func := "loop.example/g00978/laws.FnForkFrames", spec := "fnForkFrames", apart := false, narrowed := true }
def FnForkFramesUptoSaid : Prop := fnForkFramesUptoRow.holds Try.pinned (OpenSpec.upto fnForkFramesSpec)

/-- 'laws.FnExactCowNew', WHERE WHAT IT READS IS OF BULK AT MOST 1048576: true; the input reads as it did. -/
def fnExactCowNewUptoRow : OpenClaim := { program := "ytkmjkkefandjnaa", sum := "22ffb204a61489346e9efb6d94ef4b12d873d49ca5ca20616ba0d2b753ceb03f", func := "loop.example/g00978/laws.FnExactCowNew", spec := "fnExactCowNew", apart := false, narrowed := true }
def FnExactCowNewUptoSaid : Prop := fnExactCowNewUptoRow.holds Try.pinned (OpenSpec.upto fnExactCowNewSpec)

/-- 'laws.FnExactCowDrop', WHERE WHAT IT READS IS OF BULK AT MOST 1048576: true; the input reads as it did. -/
def fnExactCowDropUptoRow : OpenClaim := { program := "ytkmjkkefandjnaa", sum := "22ffb204a61489346e9efb6d94ef4b12d873d49ca5ca20616ba0d2b753ceb03f", func := "loop.example/g00978/laws.FnExactCowDrop", spec := "fnExactCowDrop", apart := false, narrowed := true }
def FnExactCowDropUptoSaid : Prop := fnExactCowDropUptoRow.holds Try.pinned (OpenSpec.upto fnExactCowDropSpec)

/-- 'laws.FnExactSetGuards', WHERE WHAT IT READS IS OF BULK AT MOST 1048576: true; the input reads as it did. -/
def fnExactSetGuardsUptoRow : OpenClaim := { program := "ytkmjkkefandjnaa", sum := "22ffb204a61489346e9efb6d94ef4b12d873d49ca5ca20616ba0d2b753ceb03f", func := "loop.example/g00978/laws.FnExactSetGuards", spec := "fnExactSetGuards", apart := false, narrowed := true }
def FnExactSetGuardsUptoSaid : Prop := fnExactSetGuardsUptoRow.holds Try.pinned (OpenSpec.upto fnExactSetGuardsSpec)

/-- 'laws.FnExactCowStore', WHERE WHAT IT READS IS OF BULK AT MOST 1048576: true; the input reads as it did. -/
def fnExactCowStoreUptoRow : OpenClaim := { program := "ytkmjkkefandjnaa", sum := "22ffb204a61489346e9efb6d94ef4b12d873d49ca5ca20616ba0d2b753ceb03f", func := "loop.example/g00978/laws.FnExactCowStore", spec := "fnExactCowStore", apart := false, narrowed := true }
def FnExactCowStoreUptoSaid : Prop := fnExactCowStoreUptoRow.holds Try.pinned (OpenSpec.upto fnExactCowStoreSpec)

end Rows
end Go.Proofs.Ytkmjkkefandjnaa
