/-
  No cell of these rows narrows 'for every input' (looked for: loops, veiled, ifaces, maps, wideKeys, modest, calm, conditions, laid).
  DERIVED. THE GIVEN ROWS OF THIS SEAT. 5 by the template 'for every input the law returns true; each argument reads behind the call as it read before'; 0 by the template 'total and deterministic' (their statements: YtbdgkoalfnehoaaTotals.lean).
  GIVEN WITH THE SEED: the statements are not yours to turn. If you find one false, say at which input.
  Laid BY PROGRAM, IN A SANDBOX (cutbox-rows.mjs): the forced cells as the released guide's own fill.sh prints them over the translation c75eb9e4eeff5a1a… (all of the seat's roots in one cut). By AI agents, Wed Nov 11 2026. No macro, syntax, notation, axiom, sorry.
-/
import Derived.Test.YtbdgkoalfnehoaaChecked
import GoSem.Claim
import GoSem.ClaimJoined
import GoSem.ClaimMapViews
import Derived.JoinedTies
import Derived.KernelRfl
namespace Go.Proofs.Ytbdgkoalfnehoaa
/- THE CELL 'sum', in the pinned program and in every row, IS THE sha256 OF THE DUMP (.gsa) THAT YtbdgkoalfnehoaaProg.lean LOADS. Nothing in Lean hashes anything: it is a label: what it is worth is what the hold of that sum in a sandbox is worth. -/
noncomputable def Try.pinned : Pinned := { name := "ytbdgkoalfnehoaa", sum := "c75eb9e4eeff5a1a30d00a48994272b531f39862a3cb41b93b6e14aea0296d07", checked := Try.checked }
namespace Rows
def none {H : Type} : Left H := { results := [], args := [] }

/-- 'laws.FnExactLiveSizes': WHATEVER THE INPUT: true; the input reads as it did. -/
def fnExactLiveSizesSpec : ChangeSpec := { name := "fnExactLiveSizes", fn := fun _ => fun
  | [d] => { results := [.lit (.bool true)], args := [d] }
  | _ => none }
def fnExactLiveSizesRow : OpenClaim := { program := "ytbdgkoalfnehoaa", sum := "c75eb9e4eeff5a1a30d00a48994272b531f39862a3cb41b93b6e14aea0296d07", func := "loop.example/g00978/laws.FnExactLiveSizes", spec := "fnExactLiveSizes", apart := false }
def FnExactLiveSizesSaid : Prop := fnExactLiveSizesRow.holds Try.pinned (OpenSpec.ofChange fnExactLiveSizesSpec)

/-- ITS FALSE NEIGHBOUR: 'it returns false'. Refute it at one input. -/
def fnExactLiveSizesWrong : ChangeSpec := { name := "fnExactLiveSizes", fn := fun _ => fun
  | [d] => { results := [.lit (.bool false)], args := [d] }
  | _ => none }
def FnExactLiveSizesWrongFalsely : Prop := fnExactLiveSizesRow.holds Try.pinned (OpenSpec.ofChange fnExactLiveSizesWrong)

/-- 'laws.FnExactObjAt': WHATEVER THE INPUT: true; the input reads as it did. -/
def fnExactObjAtSpec : ChangeSpec := { name := "fnExactObjAt", fn := fun _ => fun
  | [d1, d2] => { results := [.lit (.bool true)], args := [d1, d2] }
  | _ => none }
def fnExactObjAtRow : OpenClaim := { program := "ytbdgkoalfnehoaa", sum := "c75eb9e4eeff5a1a30d00a48994272b531f39862a3cb41b93b6e14aea0296d07", func := "loop.example/g00978/laws.FnExactObjAt", spec := "fnExactObjAt", unfollowed := true, recurses := true, apart := false }
def FnExactObjAtSaid : Prop := fnExactObjAtRow.holds Try.pinned (OpenSpec.ofChange fnExactObjAtSpec)

/-- ITS FALSE NEIGHBOUR: 'it returns false'. Refute it at one input. -/
def fnExactObjAtWrong : ChangeSpec := { name := "fnExactObjAt", fn := fun _ => fun
  | [d1, d2] => { results := [.lit (.bool false)], args := [d1, d2] }
  | _ => none }
def FnExactObjAtWrongFalsely : Prop := fnExactObjAtRow.holds Try.pinned (OpenSpec.ofChange fnExactObjAtWrong)

/-- 'laws.FnExactSpanOn': WHATEVER THE INPUT: true; the input reads as it did. -/
def fnExactSpanOnSpec : ChangeSpec := { name := "fnExactSpanOn", fn := fun _ => fun
  | [d1, d2] => { results := [.lit (.bool true)], args := [d1, d2] }
  | _ => none }
def fnExactSpanOnRow : OpenClaim := { program := "ytbdgkoalfnehoaa", sum := "c75eb9e4eeff5a1a30d00a48994272b531f39862a3cb41b93b6e14aea0296d07", func := "loop.example/g00978/laws.FnExactSpanOn", spec := "fnExactSpanOn", unfollowed := true, recurses := true, apart := false }
def FnExactSpanOnSaid : Prop := fnExactSpanOnRow.holds Try.pinned (OpenSpec.ofChange fnExactSpanOnSpec)

/-- ITS FALSE NEIGHBOUR: 'it returns false'. Refute it at one input. -/
def fnExactSpanOnWrong : ChangeSpec := { name := "fnExactSpanOn", fn := fun _ => fun
  | [d1, d2] => { results := [.lit (.bool false)], args := [d1, d2] }
  | _ => none }
def FnExactSpanOnWrongFalsely : Prop := fnExactSpanOnRow.holds Try.pinned (OpenSpec.ofChange fnExactSpanOnWrong)

/-- 'laws.FnExactWasteCells': WHATEVER THE INPUT: true; the input reads as it did. -/
def fnExactWasteCellsSpec : ChangeSpec := { name := "fnExactWasteCells", fn := fun _ => fun
  | [d] => { results := [.lit (.bool true)], args := [d] }
  | _ => none }
def fnExactWasteCellsRow : OpenClaim := { program := "ytbdgkoalfnehoaa", sum := "c75eb9e4eeff5a1a30d00a48994272b531f39862a3cb41b93b6e14aea0296d07", func := "loop.example/g00978/laws.FnExactWasteCells", spec := "fnExactWasteCells", apart := false }
def FnExactWasteCellsSaid : Prop := fnExactWasteCellsRow.holds Try.pinned (OpenSpec.ofChange fnExactWasteCellsSpec)

/-- ITS FALSE NEIGHBOUR: 'it returns false'. Refute it at one input. -/
def fnExactWasteCellsWrong : ChangeSpec := { name := "fnExactWasteCells", fn := fun _ => fun
  | [d] => { results := [.lit (.bool false)], args := [d] }
  | _ => none }
def FnExactWasteCellsWrongFalsely : Prop := fnExactWasteCellsRow.holds Try.pinned (OpenSpec.ofChange fnExactWasteCellsWrong)

/-- 'laws.FnExactUsedBits': WHATEVER THE INPUT: true; the input reads as it did. -/
def fnExactUsedBitsSpec : ChangeSpec := { name := "fnExactUsedBits", fn := fun _ => fun
  | [d1, d2] => { results := [.lit (.bool true)], args := [d1, d2] }
  | _ => none }
def fnExactUsedBitsRow : OpenClaim := { program := "ytbdgkoalfnehoaa", sum := "c75eb9e4eeff5a1a30d00a48994272b531f39862a3cb41b93b6e14aea0296d07", func := "loop.example/g00978/laws.FnExactUsedBits", spec := "fnExactUsedBits", apart := false }
def FnExactUsedBitsSaid : Prop := fnExactUsedBitsRow.holds Try.pinned (OpenSpec.ofChange fnExactUsedBitsSpec)

/-- ITS FALSE NEIGHBOUR: 'it returns false'. Refute it at one input. -/
def fnExactUsedBitsWrong : ChangeSpec := { name := "fnExactUsedBits", fn := fun _ => fun
  | [d1, d2] => { results := [.lit (.bool false)], args := [d1, d2] }
  | _ => none }
def FnExactUsedBitsWrongFalsely : Prop := fnExactUsedBitsRow.holds Try.pinned (OpenSpec.ofChange fnExactUsedBitsWrong)

/- THE SECOND FORM. 'bulk': how many values and letters a reading holds, each counted each time it is reached (what is shared counts as often as it is met; a slice's spare places count too). A statement '..UptoSaid' is the law's where the arguments, and the package variables that the reading takes, are together of bulk at most 1048576: NARROWER than '..Said'. Prove '..Said' where nothing that the law and all that it calls make is longer than what came in: it says more and counts as full. Else prove '..UptoSaid'. A law counts once. -/
mutual
def uptoBulk {H : Type} : DataW H → Nat
  | .lit (.string bytes) => bytes.length + 1
  | .lit _ => 1
  | .nil => 1
  | .ptr d => uptoBulk d + 1
  | .slice elems spare => uptoBulkAll elems + uptoBulkAll spare + 1
  | .agg parts => uptoBulkAll parts + 1
  | .iface _ d => uptoBulk d + 1
  | .map entries => uptoBulkEntries entries + 1
  | .held _ => 1
def uptoBulkAll {H : Type} : List (DataW H) → Nat
  | [] => 0
  | d :: r => uptoBulk d + uptoBulkAll r
def uptoBulkEntries {H : Type} : List (Lit × DataW H) → Nat
  | [] => 0
  | x :: r => uptoBulkEntry x + uptoBulkEntries r
def uptoBulkEntry {H : Type} : Lit × DataW H → Nat
  | (.string bytes, d) => bytes.length + uptoBulk d + 1
  | (_, d) => uptoBulk d + 1
 end
def uptoSmall : (H : Type) → List (DataW H) → Bool := fun _ ds => decide (uptoBulkAll ds ≤ 1048576)
def OpenSpec.upto (s : _root_.Go.ChangeSpec) : _root_.Go.OpenSpec := { _root_.Go.OpenSpec.ofChange s with cond := some uptoSmall }

/-- 'laws.FnExactLiveSizes', WHERE WHAT IT READS IS OF BULK AT MOST 1048576: true; the input reads as it did. -/
def fnExactLiveSizesUptoRow : OpenClaim := { program := "ytbdgkoalfnehoaa", sum := "c75eb9e4eeff5a1a30d00a48994272b531f39862a3cb41b93b6e14aea0296d07", func := "loop.example/g00978/laws.FnExactLiveSizes", spec := "fnExactLiveSizes", apart := false, narrowed := true }
def FnExactLiveSizesUptoSaid : Prop := fnExactLiveSizesUptoRow.holds Try.pinned (OpenSpec.upto fnExactLiveSizesSpec)

/-- 'laws.FnExactObjAt', WHERE WHAT IT READS IS OF BULK AT MOST 1048576: true; the input reads as it did. -/
def fnExactObjAtUptoRow : OpenClaim := { program := "ytbdgkoalfnehoaa", sum := "c75eb9e4eeff5a1a30d00a48994272b531f39862a3cb41b93b6e14aea0296d07", func := "loop.example/g00978/laws.FnExactObjAt", spec := "fnExactObjAt", unfollowed := true, recurses := true, apart := false, narrowed := true }
def FnExactObjAtUptoSaid : Prop := fnExactObjAtUptoRow.holds Try.pinned (OpenSpec.upto fnExactObjAtSpec)

/-- 'laws.FnExactSpanOn', WHERE WHAT IT READS IS OF BULK AT MOST 1048576: true; the input reads as it did. -/
def fnExactSpanOnUptoRow : OpenClaim := { program := "ytbdgkoalfnehoaa", sum := "c75eb9e4eeff5a1a30d00a48994272b531f39862a3cb41b93b6e14aea0296d07", func := "loop.example/g00978/laws.FnExactSpanOn", spec := "fnExactSpanOn", unfollowed := true, recurses := true, apart := false, narrowed := true }
def FnExactSpanOnUptoSaid : Prop := fnExactSpanOnUptoRow.holds Try.pinned (OpenSpec.upto fnExactSpanOnSpec)

/-- 'laws.FnExactWasteCells', WHERE WHAT IT READS IS OF BULK AT MOST 1048576: true; the input reads as it did. -/
def fnExactWasteCellsUptoRow : OpenClaim := { program := "ytbdgkoalfnehoaa", sum := "c75eb9e4eeff5a1a30d00a48994272b531f39862a3cb41b93b6e14aea0296d07", func := "loop.example/g00978/laws.FnExactWasteCells", spec := "fnExactWasteCells", apart := false, narrowed := true }
def FnExactWasteCellsUptoSaid : Prop := fnExactWasteCellsUptoRow.holds Try.pinned (OpenSpec.upto fnExactWasteCellsSpec)

/-- 'laws.FnExactUsedBits', WHERE WHAT IT READS IS OF BULK AT MOST 1048576: true; the input reads as it did. -/
def fnExactUsedBitsUptoRow : OpenClaim := { program := "ytbdgkoalfnehoaa", sum := "c75eb9e4eeff5a1a30d00a48994272b531f39862a3cb41b93b6e14aea0296d07", func := "loop.example/g00978/laws.FnExactUsedBits", spec := "fnExactUsedBits", apart := false, narrowed := true }
def FnExactUsedBitsUptoSaid : Prop := fnExactUsedBitsUptoRow.holds Try.pinned (OpenSpec.upto fnExactUsedBitsSpec)

end Rows
end Go.Proofs.Ytbdgkoalfnehoaa
