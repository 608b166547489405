/-
  No cell of these rows narrows 'for every input' (looked for: loops, veiled, ifaces, maps, wideKeys, modest, calm, conditions, laid).
  DERIVED. THE GIVEN ROWS OF THIS SEAT. 6 by the template 'for every input the law returns true; each argument reads behind the call as it read before'; 0 by the template 'total and deterministic' (their statements: YtebdoecpgpnphaaTotals.lean).
  GIVEN WITH THE SEED: the statements are not yours to turn. If you find one false, say at which input.
  Laid BY PROGRAM, IN A SANDBOX (cutbox-rows.mjs): the forced cells as the released guide's own fill.sh prints them over the translation 093ab7a02a42f36d… (all of the seat's roots in one cut). By AI agents, Wed Nov 11 2026. No macro, syntax, notation, axiom, sorry.
-/
import Derived.Test.YtebdoecpgpnphaaChecked
import GoSem.Claim
import GoSem.ClaimJoined
import GoSem.ClaimMapViews
import Derived.JoinedTies
import Derived.KernelRfl
namespace Go.Proofs.Ytebdoecpgpnphaa
/- THE CELL 'sum', in the pinned program and in every row, IS THE sha256 OF THE DUMP (.gsa) THAT YtebdoecpgpnphaaProg.lean LOADS. Nothing in Lean hashes anything: it is a label: what it is worth is what the hold of that sum in a sandbox is worth. -/
noncomputable def Try.pinned : Pinned := { name := "ytebdoecpgpnphaa", sum := "093ab7a02a42f36d3861ec91a37e814d84430f063a896a2316d63ac21f5f07ce", checked := Try.checked }
namespace Rows
def none {H : Type} : Left H := { results := [], args := [] }

/-- 'laws.FnExactAccountFits': WHATEVER THE INPUT: true; the input reads as it did. -/
def fnExactAccountFitsSpec : ChangeSpec := { name := "fnExactAccountFits", fn := fun _ => fun
  | [d] => { results := [.lit (.bool true)], args := [d] }
  | _ => none }
def fnExactAccountFitsRow : OpenClaim := { program := "ytebdoecpgpnphaa", sum := "093ab7a02a42f36d3861ec91a37e814d84430f063a896a2316d63ac21f5f07ce", func := "loop.example/g00978/laws.FnExactAccountFits", spec := "fnExactAccountFits", apart := false }
def FnExactAccountFitsSaid : Prop := fnExactAccountFitsRow.holds Try.pinned (OpenSpec.ofChange fnExactAccountFitsSpec)

/-- ITS FALSE NEIGHBOUR: 'it returns false'. Refute it at one input. -/
def fnExactAccountFitsWrong : ChangeSpec := { name := "fnExactAccountFits", fn := fun _ => fun
  | [d] => { results := [.lit (.bool false)], args := [d] }
  | _ => none }
def FnExactAccountFitsWrongFalsely : Prop := fnExactAccountFitsRow.holds Try.pinned (OpenSpec.ofChange fnExactAccountFitsWrong)

/-- 'laws.FnExactLargestSample': WHATEVER THE INPUT: true; the input reads as it did. -/
def fnExactLargestSampleSpec : ChangeSpec := { name := "fnExactLargestSample", fn := fun _ => fun
  | [d] => { results := [.lit (.bool true)], args := [d] }
  | _ => none }
def fnExactLargestSampleRow : OpenClaim := { program := "ytebdoecpgpnphaa", sum := "093ab7a02a42f36d3861ec91a37e814d84430f063a896a2316d63ac21f5f07ce", func := "loop.example/g00978/laws.FnExactLargestSample", spec := "fnExactLargestSample", apart := false }
def FnExactLargestSampleSaid : Prop := fnExactLargestSampleRow.holds Try.pinned (OpenSpec.ofChange fnExactLargestSampleSpec)

/-- ITS FALSE NEIGHBOUR: 'it returns false'. Refute it at one input. -/
def fnExactLargestSampleWrong : ChangeSpec := { name := "fnExactLargestSample", fn := fun _ => fun
  | [d] => { results := [.lit (.bool false)], args := [d] }
  | _ => none }
def FnExactLargestSampleWrongFalsely : Prop := fnExactLargestSampleRow.holds Try.pinned (OpenSpec.ofChange fnExactLargestSampleWrong)

/-- 'laws.FnExactSampleCells': WHATEVER THE INPUT: true; the input reads as it did. -/
def fnExactSampleCellsSpec : ChangeSpec := { name := "fnExactSampleCells", fn := fun _ => fun
  | [d] => { results := [.lit (.bool true)], args := [d] }
  | _ => none }
def fnExactSampleCellsRow : OpenClaim := { program := "ytebdoecpgpnphaa", sum := "093ab7a02a42f36d3861ec91a37e814d84430f063a896a2316d63ac21f5f07ce", func := "loop.example/g00978/laws.FnExactSampleCells", spec := "fnExactSampleCells", apart := false }
def FnExactSampleCellsSaid : Prop := fnExactSampleCellsRow.holds Try.pinned (OpenSpec.ofChange fnExactSampleCellsSpec)

/-- ITS FALSE NEIGHBOUR: 'it returns false'. Refute it at one input. -/
def fnExactSampleCellsWrong : ChangeSpec := { name := "fnExactSampleCells", fn := fun _ => fun
  | [d] => { results := [.lit (.bool false)], args := [d] }
  | _ => none }
def FnExactSampleCellsWrongFalsely : Prop := fnExactSampleCellsRow.holds Try.pinned (OpenSpec.ofChange fnExactSampleCellsWrong)

/-- 'laws.FnSampled': WHATEVER THE INPUT: true; the input reads as it did. -/
def fnSampledSpec : ChangeSpec := { name := "fnSampled", fn := fun _ => fun
  | [d] => { results := [.lit (.bool true)], args := [d] }
  | _ => none }
def fnSampledRow : OpenClaim := { program := "ytebdoecpgpnphaa", sum := "093ab7a02a42f36d3861ec91a37e814d84430f063a896a2316d63ac21f5f07ce", func := "loop.example/g00978/laws.FnSampled", spec := "fnSampled", apart := false }
def FnSampledSaid : Prop := fnSampledRow.holds Try.pinned (OpenSpec.ofChange fnSampledSpec)

/-- ITS FALSE NEIGHBOUR: 'it returns false'. Refute it at one input. -/
def fnSampledWrong : ChangeSpec := { name := "fnSampled", fn := fun _ => fun
  | [d] => { results := [.lit (.bool false)], args := [d] }
  | _ => none }
def FnSampledWrongFalsely : Prop := fnSampledRow.holds Try.pinned (OpenSpec.ofChange fnSampledWrong)

/-- 'laws.FnExactRefNew': WHATEVER THE INPUT: true; the input reads as it did. -/
def fnExactRefNewSpec : ChangeSpec := { name := "fnExactRefNew", fn := fun _ => fun
  | [] => { results := [.lit (.bool true)], args := [] }
  | _ => none }
def fnExactRefNewRow : OpenClaim := { program := "ytebdoecpgpnphaa", sum := "093ab7a02a42f36d3861ec91a37e814d84430f063a896a2316d63ac21f5f07ce", func := "loop.example/g00978/laws.FnExactRefNew", spec := "fnExactRefNew", apart := false }
def FnExactRefNewSaid : Prop := fnExactRefNewRow.holds Try.pinned (OpenSpec.ofChange fnExactRefNewSpec)

/-- ITS FALSE NEIGHBOUR: 'it returns false'. Refute it at one input. -/
def fnExactRefNewWrong : ChangeSpec := { name := "fnExactRefNew", fn := fun _ => fun
  | [] => { results := [.lit (.bool false)], args := [] }
  | _ => none }
def FnExactRefNewWrongFalsely : Prop := fnExactRefNewRow.holds Try.pinned (OpenSpec.ofChange fnExactRefNewWrong)

/-- 'laws.FnUnbiased': WHATEVER THE INPUT: true; the input reads as it did. -/
def fnUnbiasedSpec : ChangeSpec := { name := "fnUnbiased", fn := fun _ => fun
  | [d] => { results := [.lit (.bool true)], args := [d] }
  | _ => none }
def fnUnbiasedRow : OpenClaim := { program := "ytebdoecpgpnphaa", sum := "093ab7a02a42f36d3861ec91a37e814d84430f063a896a2316d63ac21f5f07ce", func := "loop.example/g00978/laws.FnUnbiased", spec := "fnUnbiased", apart := false }
def FnUnbiasedSaid : Prop := fnUnbiasedRow.holds Try.pinned (OpenSpec.ofChange fnUnbiasedSpec)

/-- ITS FALSE NEIGHBOUR: 'it returns false'. Refute it at one input. -/
def fnUnbiasedWrong : ChangeSpec := { name := "fnUnbiased", fn := fun _ => fun
  | [d] => { results := [.lit (.bool false)], args := [d] }
  | _ => none }
def FnUnbiasedWrongFalsely : Prop := fnUnbiasedRow.holds Try.pinned (OpenSpec.ofChange fnUnbiasedWrong)

/- THE SECOND FORM. 'bulk': how many values and letters a reading holds, each counted each time it is reached (what is shared counts as often as it is met; a slice's spare places count too). A statement '..UptoSaid' is the law's where the arguments, and the package variables that the reading takes, are together of bulk at most 1048576: NARROWER than '..Said'. Prove '..Said' where nothing that the law and all that it calls make is longer than what came in: it says more and counts as full. Else prove '..UptoSaid'. A law counts once. -/
mutual
def uptoBulk {H : Type} : DataW H → Nat
  | .lit (.string bytes) => bytes.length + 1
  | .lit _ => 1
  | .nil => 1
  | .ptr d => uptoBulk d + 1
  | .slice elems spare => uptoBulkAll elems + uptoBulkAll spare + 1
  | .agg parts => uptoBulkAll parts + 1
  | .iface _ d => uptoBulk d + 1
  | .map entries => uptoBulkEntries entries + 1
  | .held _ => 1
def uptoBulkAll {H : Type} : List (DataW H) → Nat
  | [] => 0
  | d :: r => uptoBulk d + uptoBulkAll r
def uptoBulkEntries {H : Type} : List (Lit × DataW H) → Nat
  | [] => 0
  | x :: r => uptoBulkEntry x + uptoBulkEntries r
def uptoBulkEntry {H : Type} : Lit × DataW H → Nat
  | (.string bytes, d) => bytes.length + uptoBulk d + 1
  | (_, d) => uptoBulk d + 1
 end
def uptoSmall : (H : Type) → List (DataW H) → Bool := fun _ ds => decide (uptoBulkAll ds ≤ 1048576)
def OpenSpec.upto (s : _root_.Go.ChangeSpec) : _root_.Go.OpenSpec := { _root_.Go.OpenSpec.ofChange s with cond := some uptoSmall }

/-- 'laws.FnExactAccountFits', WHERE WHAT IT READS IS OF BULK AT MOST 1048576: true; the input reads as it did. -/
def fnExactAccountFitsUptoRow : OpenClaim := { program := "ytebdoecpgpnphaa", sum := "093ab7a02a42f36d3861ec91a37e814d84430f063a896a2316d63ac21f5f07ce", func := "loop.example/g00978/laws.FnExactAccountFits", spec := "fnExactAccountFits", apart := false, narrowed := true }
def FnExactAccountFitsUptoSaid : Prop := fnExactAccountFitsUptoRow.holds Try.pinned (OpenSpec.upto fnExactAccountFitsSpec)

/-- 'laws.FnExactLargestSample', WHERE WHAT IT READS IS OF BULK AT MOST 1048576: true; the input reads as it did. -/
def fnExactLargestSampleUptoRow : OpenClaim := { program := "ytebdoecpgpnphaa", sum := "093ab7a02a42f36d3861ec91a37e814d84430f063a896a2316d63ac21f5f07ce", func := "loop.example/g00978/laws.FnExactLargestSample", spec := "fnExactLargestSample", apart := false, narrowed := true }
def FnExactLargestSampleUptoSaid : Prop := fnExactLargestSampleUptoRow.holds Try.pinned (OpenSpec.upto fnExactLargestSampleSpec)

/-- 'laws.FnExactSampleCells', WHERE WHAT IT READS IS OF BULK AT MOST 1048576: true; the input reads as it did. -/
def fnExactSampleCellsUptoRow : OpenClaim := { program := "ytebdoecpgpnphaa", sum := "093ab7a02a42f36d3861ec91a37e814d84430f063a896a2316d63ac21f5f07ce", func := "loop.example/g00978/laws.FnExactSampleCells", spec := "fnExactSampleCells", apart := false, narrowed := true }
def FnExactSampleCellsUptoSaid : Prop := fnExactSampleCellsUptoRow.holds Try.pinned (OpenSpec.upto fnExactSampleCellsSpec)

/-- 'laws.FnSampled', WHERE WHAT IT READS IS OF BULK AT MOST 1048576: true; the input reads as it did. -/
def fnSampledUptoRow : OpenClaim := { program := "ytebdoecpgpnphaa", sum := "093ab7a02a42f36d3861ec91a37e814d84430f063a896a2316d63ac21f5f07ce", func := "loop.example/g00978/laws.FnSampled", spec := "fnSampled", apart := false, narrowed := true }
def FnSampledUptoSaid : Prop := fnSampledUptoRow.holds Try.pinned (OpenSpec.upto fnSampledSpec)

/-- 'laws.FnExactRefNew', WHERE WHAT IT READS IS OF BULK AT MOST 1048576: true; the input reads as it did. -/
def fnExactRefNewUptoRow : OpenClaim := { program := "ytebdoecpgpnphaa", sum := "093ab7a02a42f36d3861ec91a37e814d84430f063a896a2316d63ac21f5f07ce", func := "loop.example/g00978/laws.FnExactRefNew", spec := "fnExactRefNew", apart := false, narrowed := true }
def FnExactRefNewUptoSaid : Prop := fnExactRefNewUptoRow.holds Try.pinned (OpenSpec.upto fnExactRefNewSpec)

/-- 'laws.FnUnbiased', WHERE WHAT IT READS IS OF BULK AT MOST 1048576: true; the input reads as it did. -/
def fnUnbiasedUptoRow : OpenClaim := { program := "ytebdoecpgpnphaa", sum := "093ab7a02a42f36d3861ec91a37e814d84430f063a896a2316d63ac21f5f07ce", func := "loop.example/g00978/laws.FnUnbiased", spec := "fnUnbiased", apart := false, narrowed := true }
def FnUnbiasedUptoSaid : Prop := fnUnbiasedUptoRow.holds Try.pinned (OpenSpec.upto fnUnbiasedSpec)

end Rows
end Go.Proofs.Ytebdoecpgpnphaa
