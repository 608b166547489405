/-
  No cell of these rows narrows 'for every input' (looked for: loops, veiled, ifaces, maps, wideKeys, modest, calm, conditions, laid).
  DERIVED. THE GIVEN ROWS OF THIS SEAT. 6 by the template 'for every input the law returns true; each argument reads behind the call as it read before'; 0 by the template 'total and deterministic' (their statements: YtlpkkliogonmnaaTotals.lean).
  GIVEN WITH THE SEED: the statements are not yours to turn. If you find one false, say at which input.
  Laid BY PROGRAM, IN A SANDBOX (cutbox-rows.mjs): the forced cells as the released guide's own fill.sh prints them over the translation 8ea5858a9c4c799a… (all of the seat's roots in one cut). By AI agents, Wed Nov 11 2026. No macro, syntax, notation, axiom, sorry.
-/
import Derived.Test.YtlpkkliogonmnaaChecked
import GoSem.Claim
import GoSem.ClaimJoined
import GoSem.ClaimMapViews
import Derived.JoinedTies
import Derived.KernelRfl
namespace Go.Proofs.Ytlpkkliogonmnaa
/- THE CELL 'sum', in the pinned program and in every row, IS THE sha256 OF THE DUMP (.gsa) THAT YtlpkkliogonmnaaProg.lean LOADS. Nothing in Lean hashes anything: it is a label: what it is worth is what the hold of that sum in a sandbox is worth. -/
noncomputable def Try.pinned : Pinned := { name := "ytlpkkliogonmnaa", sum := "8ea5858a9c4c799ada05fadc6df8228d01c706608583994dab98ee85abf41db3", checked := Try.checked }
namespace Rows
def none {H : Type} : Left H := { results := [], args := [] }

/-- 'laws.FnReference': WHATEVER THE INPUT: true; the input reads as it did. -/
def fnReferenceSpec : ChangeSpec := { name := "fnReference", fn := fun _ => fun
  | [d] => { results := [.lit (.bool true)], args := [d] }
  | _ => none }
def fnReferenceRow : OpenClaim := { program := "ytlpkkliogonmnaa", sum := "8ea5858a9c4c799ada05fadc6df8228d01c706608583994dab98ee85abf41db3", func := "loop.example/g00978/laws.FnReference", spec := "fnReference", unfollowed := true, recurses := true, apart := false }
def FnReferenceSaid : Prop := fnReferenceRow.holds Try.pinned (OpenSpec.ofChange fnReferenceSpec)

/-- ITS FALSE NEIGHBOUR: 'it returns false'. Refute it at one input. -/
def fnReferenceWrong : ChangeSpec := { name := "fnReference", fn := fun _ => fun
  | [d] => { results := [.lit (.bool false)], args := [d] }
  | _ => none }
def FnReferenceWrongFalsely : Prop := fnReferenceRow.holds Try.pinned (OpenSpec.ofChange fnReferenceWrong)

/-- 'laws.FnExactSampleOf': WHATEVER THE INPUT: true; the input reads as it did. -/
def fnExactSampleOfSpec : ChangeSpec := { name := "fnExactSampleOf", fn := fun _ => fun
  | [d1, d2, d3] => { results := [.lit (.bool true)], args := [d1, d2, d3] }
  | _ => none }
def fnExactSampleOfRow : OpenClaim := { program := "ytlpkkliogonmnaa", sum := "8ea5858a9c4c799ada05fadc6df8228d01c706608583994dab98ee85abf41db3", func := "loop.example/g00978/laws.FnExactSampleOf", spec := "fnExactSampleOf", apart := false }
def FnExactSampleOfSaid : Prop := fnExactSampleOfRow.holds Try.pinned (OpenSpec.ofChange fnExactSampleOfSpec)

/-- ITS FALSE NEIGHBOUR: 'it returns false'. Refute it at one input. -/
def fnExactSampleOfWrong : ChangeSpec := { name := "fnExactSampleOf", fn := fun _ => fun
  | [d1, d2, d3] => { results := [.lit (.bool false)], args := [d1, d2, d3] }
  | _ => none }
def FnExactSampleOfWrongFalsely : Prop := fnExactSampleOfRow.holds Try.pinned (OpenSpec.ofChange fnExactSampleOfWrong)

/-- 'laws.FnExactRefAlloc': WHATEVER THE INPUT: true; the input reads as it did. -/
def fnExactRefAllocSpec : ChangeSpec := { name := "fnExactRefAlloc", fn := fun _ => fun
  | [d1, d2] => { results := [.lit (.bool true)], args := [d1, d2] }
  | _ => none }
def fnExactRefAllocRow : OpenClaim := { program := "ytlpkkliogonmnaa", sum := "8ea5858a9c4c799ada05fadc6df8228d01c706608583994dab98ee85abf41db3", func := "loop.example/g00978/laws.FnExactRefAlloc", spec := "fnExactRefAlloc", apart := false }
def FnExactRefAllocSaid : Prop := fnExactRefAllocRow.holds Try.pinned (OpenSpec.ofChange fnExactRefAllocSpec)

/-- ITS FALSE NEIGHBOUR: 'it returns false'. Refute it at one input. -/
def fnExactRefAllocWrong : ChangeSpec := { name := "fnExactRefAlloc", fn := fun _ => fun
  | [d1, d2] => { results := [.lit (.bool false)], args := [d1, d2] }
  | _ => none }
def FnExactRefAllocWrongFalsely : Prop := fnExactRefAllocRow.holds Try.pinned (OpenSpec.ofChange fnExactRefAllocWrong)

/-- 'laws.FnExactRefStore': WHATEVER THE INPUT: true; the input reads as it did. -/
def fnExactRefStoreSpec : ChangeSpec := { name := "fnExactRefStore", fn := fun _ => fun
  | [d1, d2, d3, d4] => { results := [.lit (.bool true)], args := [d1, d2, d3, d4] }
  | _ => none }
def fnExactRefStoreRow : OpenClaim := { program := "ytlpkkliogonmnaa", sum := "8ea5858a9c4c799ada05fadc6df8228d01c706608583994dab98ee85abf41db3", func := "loop.example/g00978/laws.FnExactRefStore", spec := "fnExactRefStore", unfollowed := true, recurses := true, apart := false }
def FnExactRefStoreSaid : Prop := fnExactRefStoreRow.holds Try.pinned (OpenSpec.ofChange fnExactRefStoreSpec)

/-- ITS FALSE NEIGHBOUR: 'it returns false'. Refute it at one input. -/
def fnExactRefStoreWrong : ChangeSpec := { name := "fnExactRefStore", fn := fun _ => fun
  | [d1, d2, d3, d4] => { results := [.lit (.bool false)], args := [d1, d2, d3, d4] }
  | _ => none }
def FnExactRefStoreWrongFalsely : Prop := fnExactRefStoreRow.holds Try.pinned (OpenSpec.ofChange fnExactRefStoreWrong)

/-- 'laws.FnExactRefTrim': WHATEVER THE INPUT: true; the input reads as it did. -/
def fnExactRefTrimSpec : ChangeSpec := { name := "fnExactRefTrim", fn := fun _ => fun
  | [d1, d2, d3] => { results := [.lit (.bool true)], args := [d1, d2, d3] }
  | _ => none }
def fnExactRefTrimRow : OpenClaim := { program := "ytlpkkliogonmnaa", sum := "8ea5858a9c4c799ada05fadc6df8228d01c706608583994dab98ee85abf41db3", func := "loop.example/g00978/laws.FnExactRefTrim", spec := "fnExactRefTrim", unfollowed := true, recurses := true, apart := false }
def FnExactRefTrimSaid : Prop := fnExactRefTrimRow.holds Try.pinned (OpenSpec.ofChange fnExactRefTrimSpec)

/-- ITS FALSE NEIGHBOUR: 'it returns false'. Refute it at one input. -/
def fnExactRefTrimWrong : ChangeSpec := { name := "fnExactRefTrim", fn := fun _ => fun
  | [d1, d2, d3] => { results := [.lit (.bool false)], args := [d1, d2, d3] }
  | _ => none }
def FnExactRefTrimWrongFalsely : Prop := fnExactRefTrimRow.holds Try.pinned (OpenSpec.ofChange fnExactRefTrimWrong)

/-- 'laws.FnExactRefFree': WHATEVER THE INPUT: true; the input reads as it did. -/
def fnExactRefFreeSpec : ChangeSpec := { name := "fnExactRefFree", fn := fun _ => fun
  | [d1, d2] => { results := [.lit (.bool true)], args := [d1, d2] }
  | _ => none }
def fnExactRefFreeRow : OpenClaim := { program := "ytlpkkliogonmnaa", sum := "8ea5858a9c4c799ada05fadc6df8228d01c706608583994dab98ee85abf41db3", func := "loop.example/g00978/laws.FnExactRefFree", spec := "fnExactRefFree", unfollowed := true, recurses := true, apart := false }
def FnExactRefFreeSaid : Prop := fnExactRefFreeRow.holds Try.pinned (OpenSpec.ofChange fnExactRefFreeSpec)

/-- ITS FALSE NEIGHBOUR: 'it returns false'. Refute it at one input. -/
def fnExactRefFreeWrong : ChangeSpec := { name := "fnExactRefFree", fn := fun _ => fun
  | [d1, d2] => { results := [.lit (.bool false)], args := [d1, d2] }
  | _ => none }
def FnExactRefFreeWrongFalsely : Prop := fnExactRefFreeRow.holds Try.pinned (OpenSpec.ofChange fnExactRefFreeWrong)

/- THE SECOND FORM. 'bulk': how many values and letters a reading holds, each counted each time it is reached (what is shared counts as often as it is met; a slice's spare places count too). A statement '..UptoSaid' is the law's where the arguments, and the package variables that the reading takes, are together of bulk at most 1048576: NARROWER than '..Said'. Prove '..Said' where nothing that the law and all that it calls make is longer than what came in: it says more and counts as full. Else prove '..UptoSaid'. A law counts once. -/
mutual
def uptoBulk {H : Type} : DataW H → Nat
  | .lit (.string bytes) => bytes.length + 1
  | .lit _ => 1
  | .nil => 1
  | .ptr d => uptoBulk d + 1
  | .slice elems spare => uptoBulkAll elems + uptoBulkAll spare + 1
  | .agg parts => uptoBulkAll parts + 1
  | .iface _ d => uptoBulk d + 1
  | .map entries => uptoBulkEntries entries + 1
  | .held _ => 1
def uptoBulkAll {H : Type} : List (DataW H) → Nat
  | [] => 0
  | d :: r => uptoBulk d + uptoBulkAll r
def uptoBulkEntries {H : Type} : List (Lit × DataW H) → Nat
  | [] => 0
  | x :: r => uptoBulkEntry x + uptoBulkEntries r
def uptoBulkEntry {H : Type} : Lit × DataW H → Nat
  | (.string bytes, d) => bytes.length + uptoBulk d + 1
  | (_, d) => uptoBulk d + 1
 end
def uptoSmall : (H : Type) → List (DataW H) → Bool := fun _ ds => decide (uptoBulkAll ds ≤ 1048576)
def OpenSpec.upto (s : _root_.Go.ChangeSpec) : _root_.Go.OpenSpec := { _root_.Go.OpenSpec.ofChange s with cond := some uptoSmall }

/-- 'laws.FnReference', WHERE WHAT IT READS IS OF BULK AT MOST 1048576: true; the input reads as it did. -/
def fnReferenceUptoRow : OpenClaim := { program := "ytlpkkliogonmnaa", sum := "8ea5858a9c4c799ada05fadc6df8228d01c706608583994dab98ee85abf41db3", func := "loop.example/g00978/laws.FnReference", spec := "fnReference", unfollowed := true, recurses := true, apart := false, narrowed := true }
def FnReferenceUptoSaid : Prop := fnReferenceUptoRow.holds Try.pinned (OpenSpec.upto fnReferenceSpec)

/-- 'laws.FnExactSampleOf', WHERE WHAT IT READS IS OF BULK AT MOST 1048576: true; the input reads as it did. -/
def fnExactSampleOfUptoRow : OpenClaim := { program := "ytlpkkliogonmnaa", sum := "8ea5858a9c4c799ada05fadc6df8228d01c706608583994dab98ee85abf41db3", func := "loop.example/g00978/laws.FnExactSampleOf", spec := "fnExactSampleOf", apart := false, narrowed := true }
def FnExactSampleOfUptoSaid : Prop := fnExactSampleOfUptoRow.holds Try.pinned (OpenSpec.upto fnExactSampleOfSpec)

/-- 'laws.FnExactRefAlloc', WHERE WHAT IT READS IS OF BULK AT MOST 1048576: true; the input reads as it did. -/
def fnExactRefAllocUptoRow : OpenClaim := { program := "ytlpkkliogonmnaa", sum := "8ea5858a9c4c799ada05fadc6df8228d01c706608583994dab98ee85abf41db3", func := "loop.example/g00978/laws.FnExactRefAlloc", spec := "fnExactRefAlloc", apart := false, narrowed := true }
def FnExactRefAllocUptoSaid : Prop := fnExactRefAllocUptoRow.holds Try.pinned (OpenSpec.upto fnExactRefAllocSpec)

/-- 'laws.FnExactRefStore', WHERE WHAT IT READS IS OF BULK AT MOST 1048576: true; the input reads as it did. -/
def fnExactRefStoreUptoRow : OpenClaim := { program := "ytlpkkliogonmnaa", sum := "8ea5858a9c4c799ada05fadc6df8228d01c706608583994dab98ee85abf41db3", func := "loop.example/g00978/laws.FnExactRefStore", spec := "fnExactRefStore", unfollowed := true, recurses := true, apart := false, narrowed := true }
def FnExactRefStoreUptoSaid : Prop := fnExactRefStoreUptoRow.holds Try.pinned (OpenSpec.upto fnExactRefStoreSpec)

/-- 'laws.FnExactRefTrim', WHERE WHAT IT READS IS OF BULK AT MOST 1048576: true; the input reads as it did. -/
def fnExactRefTrimUptoRow : OpenClaim := { program := "ytlpkkliogonmnaa", sum := "8ea5858a9c4c799ada05fadc6df8228d01c706608583994dab98ee85abf41db3", func := "loop.example/g00978/laws.FnExactRefTrim", spec := "fnExactRefTrim", unfollowed := true, recurses := true, apart := false, narrowed := true }
def FnExactRefTrimUptoSaid : Prop := fnExactRefTrimUptoRow.holds Try.pinned (OpenSpec.upto fnExactRefTrimSpec)

/-- 'laws.FnExactRefFree', WHERE WHAT IT READS IS OF BULK AT MOST 1048576: true; the input reads as it did. -/
def fnExactRefFreeUptoRow : OpenClaim := { program := "ytlpkkliogonmnaa", sum := "8ea5858a9c4c799ada05fadc6df8228d01c706608583994dab98ee85abf41db3", func := "loop.example/g00978/laws.FnExactRefFree", spec := "fnExactRefFree", unfollowed := true, recurses := true, apart := false, narrowed := true }
def FnExactRefFreeUptoSaid : Prop := fnExactRefFreeUptoRow.holds Try.pinned (OpenSpec.upto fnExactRefFreeSpec)

end Rows
end Go.Proofs.Ytlpkkliogonmnaa
