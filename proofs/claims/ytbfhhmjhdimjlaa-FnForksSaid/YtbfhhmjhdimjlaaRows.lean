/-
  No cell of these rows narrows 'for every input' (looked for: loops, veiled, ifaces, maps, wideKeys, modest, calm, conditions, laid).
  DERIVED. THE GIVEN ROWS OF THIS SEAT. 8 by the template 'for every input the law returns true; each argument reads behind the call as it read before'; 0 by the template 'total and deterministic' (their statements: YtbfhhmjhdimjlaaTotals.lean).
  GIVEN WITH THE SEED: the statements are not yours to turn. If you find one false, say at which input.
  Laid BY PROGRAM, IN A SANDBOX (cutbox-rows.mjs): the forced cells as the released guide's own fill.sh prints them over the translation 8e9ac8a2029f3303… (all of the seat's roots in one cut). By AI agents, Wed Nov 11 2026. No macro, syntax, notation, axiom, sorry.
-/
import Derived.Test.YtbfhhmjhdimjlaaChecked
import GoSem.Claim
import GoSem.ClaimJoined
import GoSem.ClaimMapViews
import Derived.JoinedTies
import Derived.KernelRfl
namespace Go.Proofs.Ytbfhhmjhdimjlaa
/- THE CELL 'sum', in the pinned program and in every row, IS THE sha256 OF THE DUMP (.gsa) THAT YtbfhhmjhdimjlaaProg.lean LOADS. Nothing in Lean hashes anything: it is a label: what it is worth is what the hold of that sum in a sandbox is worth. -/
noncomputable def Try.pinned : Pinned := { name := "ytbfhhmjhdimjlaa", sum := "8e9ac8a2029f33030eb2a1de3ed242d1983011e886187f4dcf5fcbe576ce37bb", checked := Try.checked }
namespace Rows
def none {H : Type} : Left H := { results := [], args := [] }

/-- 'laws.FnSampled': WHATEVER THE INPUT: true; the input reads as it did. -/
def fnSampledSpec : ChangeSpec := { name := "fnSampled", fn := fun _ => fun
  | [d] => { results := [.lit (.bool true)], args := [d] }
  | _ => none }
def fnSampledRow : OpenClaim := { program := "ytbfhhmjhdimjlaa", sum := "8e9ac8a2029f33030eb2a1de3ed242d1983011e886187f4dcf5fcbe576ce37bb", func := "loop.example/g00978/laws.FnSampled", spec := "fnSampled", apart := false }
def FnSampledSaid : Prop := fnSampledRow.holds Try.pinned (OpenSpec.ofChange fnSampledSpec)

/-- ITS FALSE NEIGHBOUR: 'it returns false'. Refute it at one input. -/
def fnSampledWrong : ChangeSpec := { name := "fnSampled", fn := fun _ => fun
  | [d] => { results := [.lit (.bool false)], args := [d] }
  | _ => none }
def FnSampledWrongFalsely : Prop := fnSampledRow.holds Try.pinned (OpenSpec.ofChange fnSampledWrong)

/-- 'laws.FnUnbiased': WHATEVER THE INPUT: true; the input reads as it did. -/
def fnUnbiasedSpec : ChangeSpec := { name := "fnUnbiased", fn := fun _ => fun
  | [d] => { results := [.lit (.bool true)], args := [d] }
  | _ => none }
def fnUnbiasedRow : OpenClaim := { program := "ytbfhhmjhdimjlaa", sum := "8e9ac8a2029f33030eb2a1de3ed242d1983011e886187f4dcf5fcbe576ce37bb", func := "loop.example/g00978/laws.FnUnbiased", spec := "fnUnbiased", apart := false }
def FnUnbiasedSaid : Prop := fnUnbiasedRow.holds Try.pinned (OpenSpec.ofChange fnUnbiasedSpec)

/-- ITS FALSE NEIGHBOUR: 'it returns false'. Refute it at one input. -/
def fnUnbiasedWrong : ChangeSpec := { name := "fnUnbiased", fn := fun _ => fun
  | [d] => { results := [.lit (.bool false)], args := [d] }
  | _ => none }
def FnUnbiasedWrongFalsely : Prop := fnUnbiasedRow.holds Try.pinned (OpenSpec.ofChange fnUnbiasedWrong)

/-- 'laws.FnReference': WHATEVER THE INPUT: true; the input reads as it did. -/
def fnReferenceSpec : ChangeSpec := { name := "fnReference", fn := fun _ => fun
  | [d] => { results := [.lit (.bool true)], args := [d] }
  | _ => none }
def fnReferenceRow : OpenClaim := { program := "ytbfhhmjhdimjlaa", sum := "8e9ac8a2029f33030eb2a1de3ed242d1983011e886187f4dcf5fcbe576ce37bb", func := "loop.example/g00978/laws.FnReference", spec := "fnReference", unfollowed := true, recurses := true, apart := false }
def FnReferenceSaid : Prop := fnReferenceRow.holds Try.pinned (OpenSpec.ofChange fnReferenceSpec)

/-- ITS FALSE NEIGHBOUR: 'it returns false'. Refute it at one input. -/
def fnReferenceWrong : ChangeSpec := { name := "fnReference", fn := fun _ => fun
  | [d] => { results := [.lit (.bool false)], args := [d] }
  | _ => none }
def FnReferenceWrongFalsely : Prop := fnReferenceRow.holds Try.pinned (OpenSpec.ofChange fnReferenceWrong)

/-- 'laws.FnExactRefTrim': WHATEVER THE INPUT: true; the input reads as it did. -/
def fnExactRefTrimSpec : ChangeSpec := { name := "fnExactRefTrim", fn := fun _ => fun
  | [d1, d2, d3] => { results := [.lit (.bool true)], args := [d1, d2, d3] }
  | _ => none }
def fnExactRefTrimRow : OpenClaim := { program := "ytbfhhmjhdimjlaa", sum := "8e9ac8a2029f33030eb2a1de3ed242d1983011e886187f4dcf5fcbe576ce37bb", func := "loop.example/g00978/laws.FnExactRefTrim", spec := "fnExactRefTrim", unfollowed := true, recurses := true, apart := false }
def FnExactRefTrimSaid : Prop := fnExactRefTrimRow.holds Try.pinned (OpenSpec.ofChange fnExactRefTrimSpec)

/-- ITS FALSE NEIGHBOUR: 'it returns false'. Refute it at one input. -/
def fnExactRefTrimWrong : ChangeSpec := { name := "fnExactRefTrim", fn := fun _ => fun
  | [d1, d2, d3] => { results := [.lit (.bool false)], args := [d1, d2, d3] }
  | _ => none }
def FnExactRefTrimWrongFalsely : Prop := fnExactRefTrimRow.holds Try.pinned (OpenSpec.ofChange fnExactRefTrimWrong)

/-- 'laws.FnExactRefFree': WHATEVER THE INPUT: true; the input reads as it did. -/
def fnExactRefFreeSpec : ChangeSpec := { name := "fnExactRefFree", fn := fun _ => fun
  | [d1, d2] => { results := [.lit (.bool true)], args := [d1, d2] }
  | _ => none }
def fnExactRefFreeRow : OpenClaim := { program := "ytbfhhmjhdimjlaa", sum := "8e9ac8a2029f33030eb2a1de3ed242d1983011e886187f4dcf5fcbe576ce37bb", func := "loop.example/g00978/laws.FnExactRefFree", spec := "fnExactRefFree", unfollowed := true, recurses := true, apart := false }
def FnExactRefFreeSaid : Prop := fnExactRefFreeRow.holds Try.pinned (OpenSpec.ofChange fnExactRefFreeSpec)

/-- ITS FALSE NEIGHBOUR: 'it returns false'. Refute it at one input. -/
def fnExactRefFreeWrong : ChangeSpec := { name := "fnExactRefFree", fn := fun _ => fun
  | [d1, d2] => { results := [.lit (.bool false)], args := [d1, d2] }
  | _ => none }
def FnExactRefFreeWrongFalsely : Prop := fnExactRefFreeRow.holds Try.pinned (OpenSpec.ofChange fnExactRefFreeWrong)

/-- 'laws.FnForkDropped': WHATEVER THE INPUT: true; the input reads as it did. -/
def fnForkDroppedSpec : ChangeSpec := { name := "fnForkDropped", fn := fun _ => fun
  | [d] => { results := [.lit (.bool true)], args := [d] }
  | _ => none }
def fnForkDroppedRow : OpenClaim := { program := "ytbfhhmjhdimjlaa", sum := "8e9ac8a2029f33030eb2a1de3ed242d1983011e886187f4dcf5fcbe576ce37bb", func := "loop.example/g00978/laws.FnForkDropped", spec := "fnForkDropped", apart := false }
def FnForkDroppedSaid : Prop := fnForkDroppedRow.holds Try.pinned (OpenSpec.ofChange fnForkDroppedSpec)

/-- ITS FALSE NEIGHBOUR: 'it returns false'. Refute it at one input. -/
def fnForkDroppedWrong : ChangeSpec := { name := "fnForkDropped", fn := fun _ => fun
  | [d] => { results := [.lit (.bool false)], args := [d] }
  | _ => none }
def FnForkDroppedWrongFalsely : Prop := fnForkDroppedRow.holds Try.pinned (OpenSpec.ofChange fnForkDroppedWrong)

/-- 'laws.FnForks': WHATEVER THE INPUT: true; the input reads as it did. -/
def fnForksSpec : ChangeSpec := { name := "fnForks", fn := fun _ => fun
  | [d] => { results := [.lit (.bool true)], args := [d] }
  | _ => none }
def fnForksRow : OpenClaim := { program := "ytbfhhmjhdimjlaa", sum := "8e9ac8a2029f33030eb2a1de3ed242d1983011e886187f4dcf5fcbe576ce37bb", func := "loop.example/g00978/laws.FnForks", spec := "fnForks", apart := false }
def FnForksSaid : Prop := fnForksRow.holds Try.pinned (OpenSpec.ofChange fnForksSpec)

/-- ITS FALSE NEIGHBOUR: 'it returns false'. Refute it at one input. -/
def fnForksWrong : ChangeSpec := { name := "fnForks", fn := fun _ => fun
  | [d] => { results := [.lit (.bool false)], args := [d] }
  | _ => none }
def FnForksWrongFalsely : Prop := fnForksRow.holds Try.pinned (OpenSpec.ofChange fnForksWrong)

/-- 'laws.FnForkFrames': WHATEVER THE INPUT: true; the input reads as it did. -/
def fnForkFramesSpec : ChangeSpec := { name := "fnForkFrames", fn := fun _ => fun
  | [d] => { results := [.lit (.bool true)], args := [d] }
  | _ => none }
def fnForkFramesRow : OpenClaim := { program := "ytbfhhmjhdimjlaa", sum := "8e9ac8a2029f33030eb2a1de3ed242d1983011e886187f4dcf5fcbe576ce37bb", func := "loop.example/g00978/laws.FnForkFrames", spec := "fnForkFrames", apart := false }
def FnForkFramesSaid : Prop := fnForkFramesRow.holds Try.pinned (OpenSpec.ofChange fnForkFramesSpec)

/-- ITS FALSE NEIGHBOUR: 'it returns false'. Refute it at one input. -/
def fnForkFramesWrong : ChangeSpec := { name := "fnForkFrames", fn := fun _ => fun
  | [d] => { results := [.lit (.bool false)], args := [d] }
  | _ => none }
def FnForkFramesWrongFalsely : Prop := fnForkFramesRow.holds Try.pinned (OpenSpec.ofChange fnForkFramesWrong)

/- THE SECOND FORM. 'bulk': how many values and letters a reading holds, each counted each time it is reached (what is shared counts as often as it is met; a slice's spare places count too). A statement '..UptoSaid' is the law's where the arguments, and the package variables that the reading takes, are together of bulk at most 1048576: NARROWER than '..Said'. Prove '..Said' where nothing that the law and all that it calls make is longer than what came in: it says more and counts as full. Else prove '..UptoSaid'. A law counts once. -/
mutual
def uptoBulk {H : Type} : DataW H → Nat
  | .lit (.string bytes) => bytes.length + 1
  | .lit _ => 1
  | .nil => 1
  | .ptr d => uptoBulk d + 1
  | .slice elems spare => uptoBulkAll elems + uptoBulkAll spare + 1
  | .agg parts => uptoBulkAll parts + 1
  | .iface _ d => uptoBulk d + 1
  | .map entries => uptoBulkEntries entries + 1
  | .held _ => 1
def uptoBulkAll {H : Type} : List (DataW H) → Nat
  | [] => 0
  | d :: r => uptoBulk d + uptoBulkAll r
def uptoBulkEntries {H : Type} : List (Lit × DataW H) → Nat
  | [] => 0
  | x :: r => uptoBulkEntry x + uptoBulkEntries r
def uptoBulkEntry {H : Type} : Lit × DataW H → Nat
  | (.string bytes, d) => bytes.length + uptoBulk d + 1
  | (_, d) => uptoBulk d + 1
 end
def uptoSmall : (H : Type) → List (DataW H) → Bool := fun _ ds => decide (uptoBulkAll ds ≤ 1048576)
def OpenSpec.upto (s : _root_.Go.ChangeSpec) : _root_.Go.OpenSpec := { _root_.Go.OpenSpec.ofChange s with cond := some uptoSmall }

/-- 'laws.FnSampled', WHERE WHAT IT READS IS OF BULK AT MOST 1048576: true; the input reads as it did. -/
def fnSampledUptoRow : OpenClaim := { program := "ytbfhhmjhdimjlaa", sum := "8e9ac8a2029f33030eb2a1de3ed242d1983011e886187f4dcf5fcbe576ce37bb", func := "loop.example/g00978/laws.FnSampled", spec := "fnSampled", apart := false, narrowed := true }
def FnSampledUptoSaid : Prop := fnSampledUptoRow.holds Try.pinned (OpenSpec.upto fnSampledSpec)

/-- 'laws.FnUnbiased', WHERE WHAT IT READS IS OF BULK AT MOST 1048576: true; the input reads as it did. -/
def fnUnbiasedUptoRow : OpenClaim := { program := "ytbfhhmjhdimjlaa", sum := "8e9ac8a2029f33030eb2a1de3ed242d1983011e886187f4dcf5fcbe576ce37bb", func := "loop.example/g00978/laws.FnUnbiased", spec := "fnUnbiased", apart := false, narrowed := true }
def FnUnbiasedUptoSaid : Prop := fnUnbiasedUptoRow.holds Try.pinned (OpenSpec.upto fnUnbiasedSpec)

/-- 'laws.FnReference', WHERE WHAT IT READS IS OF BULK AT MOST 1048576: true; the input reads as it did. -/
def fnReferenceUptoRow : OpenClaim := { program := "ytbfhhmjhdimjlaa", sum := "8e9ac8a2029f33030eb2a1de3ed242d1983011e886187f4dcf5fcbe576ce37bb", func := "loop.example/g00978/laws.FnReference", spec := "fnReference", unfollowed := true, recurses := true, apart := false, narrowed := true }
def FnReferenceUptoSaid : Prop := fnReferenceUptoRow.holds Try.pinned (OpenSpec.upto fnReferenceSpec)

/-- 'laws.FnExactRefTrim', WHERE WHAT IT READS IS OF BULK AT MOST 1048576: true; the input reads as it did. -/
def fnExactRefTrimUptoRow : OpenClaim := { program := "ytbfhhmjhdimjlaa", sum := "8e9ac8a2029f33030eb2a1de3ed242d1983011e886187f4dcf5fcbe576ce37bb", func := "loop.example/g00978/laws.FnExactRefTrim", spec := "fnExactRefTrim", unfollowed := true, recurses := true, apart := false, narrowed := true }
def FnExactRefTrimUptoSaid : Prop := fnExactRefTrimUptoRow.holds Try.pinned (OpenSpec.upto fnExactRefTrimSpec)

/-- 'laws.FnExactRefFree', WHERE WHAT IT READS IS OF BULK AT MOST 1048576: true; the input reads as it did. -/
def fnExactRefFreeUptoRow : OpenClaim := { program := "ytbfhhmjhdimjlaa", sum := "8e9ac8a2029f33030eb2a1de3ed242d1983011e886187f4dcf5fcbe576ce37bb", func := "loop.example/g00978/laws.FnExactRefFree", spec := "fnExactRefFree", unfollowed := true, recurses := true, apart := false, narrowed := true }
def FnExactRefFreeUptoSaid : Prop := fnExactRefFreeUptoRow.holds Try.pinned (OpenSpec.upto fnExactRefFreeSpec)

/-- 'laws.FnForkDropped', WHERE WHAT IT READS IS OF BULK AT MOST 1048576: true; the input reads as it did. -/
def fnForkDroppedUptoRow : OpenClaim := { program := "ytbfhhmjhdimjlaa", sum := "8e9ac8a2029f33030eb2a1de3ed242d1983011e886187f4dcf5fcbe576ce37bb", func := "loop.example/g00978/laws.FnForkDropped", spec := "fnForkDropped", apart := false, narrowed := true }
def FnForkDroppedUptoSaid : Prop := fnForkDroppedUptoRow.holds Try.pinned (OpenSpec.upto fnForkDroppedSpec)

/-- 'laws.FnForks', WHERE WHAT IT READS IS OF BULK AT MOST 1048576: true; the input reads as it did. -/
def fnForksUptoRow : OpenClaim := { program := "ytbfhhmjhdimjlaa", sum := "8e9ac8a2029f33030eb2a1de3ed242d1983011e886187f4dcf5fcbe576ce37bb", func := "loop.example/g00978/laws.FnForks", spec := "fnForks", apart := false, narrowed := true }
def FnForksUptoSaid : Prop := fnForksUptoRow.holds Try.pinned (OpenSpec.upto fnForksSpec)

/-- 'laws.FnForkFrames', WHERE WHAT IT READS IS OF BULK AT MOST 1048576: true; the input reads as it did. -/
def fnForkFramesUptoRow : OpenClaim := { program := "ytbfhhmjhdimjlaa", sum := "8e9ac8a2029f33030eb2a1de3ed242d1983011e886187f4dcf5fcbe576ce37bb", func := "loop.example/g00978/laws.FnForkFrames", spec := "fnForkFrames", apart := false, narrowed := true }
def FnForkFramesUptoSaid : Prop := fnForkFramesUptoRow.holds Try.pinned (OpenSpec.upto fnForkFramesSpec)

end Rows
end Go.Proofs.Ytbfhhmjhdimjlaa
