/-
  No cell of these rows narrows 'for every input' (looked for: loops, veiled, ifaces, maps, wideKeys, modest, calm, conditions, laid).
  DERIVED. THE GIVEN ROWS OF THIS SEAT. 4 by the template 'for every input the law returns true; each argument reads behind the call as it read before'; 0 by the template 'total and deterministic' (their statements: YtbdgkoalfnehoaaGreatTotals.lean).
  GIVEN WITH THE SEED: the statements are not yours to turn. If you find one false, say at which input.
  Laid BY PROGRAM, IN A SANDBOX (cutbox-rows.mjs): the forced cells as the released guide's own fill.sh prints them over the translation f190b6e5c0420c35… (all of the seat's roots in one cut). By AI agents, Wed Nov 11 2026. No macro, syntax, notation, axiom, sorry.
-/
import Derived.Test.YtbdgkoalfnehoaaGreatChecked
import GoSem.Claim
import GoSem.ClaimJoined
import GoSem.ClaimMapViews
import Derived.JoinedTies
import Derived.KernelRfl
namespace Go.Proofs.YtbdgkoalfnehoaaGreat
/- THE CELL 'sum', in the pinned program and in every row, IS THE sha256 OF THE DUMP (.gsa) THAT YtbdgkoalfnehoaaGreatProg.lean LOADS. Nothing in Lean hashes anything: it is a label: what it is worth is what the hold of that sum in a sandbox is worth. -/
noncomputable def Tryz.pinned : Pinned := { name := "ytbdgkoalfnehoaagreat", sum := "f190b6e5c0420c355ab6924539c41380a1cc38fe5c94ee5efc07218e8a5f60b8", checked := Tryz.checked }
namespace Rows
def none {H : Type} : Left H := { results := [], args := [] }

/-- 'laws.FnExactFramePages': WHATEVER THE INPUT: true; the input reads as it did. -/
def fnExactFramePagesSpec : ChangeSpec := { name := "fnExactFramePages", fn := fun _ => fun
  | [d1, d2] => { results := [.lit (.bool true)], args := [d1, d2] }
  | _ => none }
def fnExactFramePagesRow : OpenClaim := { program := "ytbdgkoalfnehoaagreat", sum := "f190b6e5c0420c355ab6924539c41380a1cc38fe5c94ee5efc07218e8a5f60b8", func := "loop.example/g00978/laws.FnExactFramePages", spec := "fnExactFramePages", apart := false }
def FnExactFramePagesSaid : Prop := fnExactFramePagesRow.holds Tryz.pinned (OpenSpec.ofChange fnExactFramePagesSpec)

/-- ITS FALSE NEIGHBOUR: 'it returns false'. Refute it at one input. -/
def fnExactFramePagesWrong : ChangeSpec := { name := "fnExactFramePages", fn := fun _ => fun
  | [d1, d2] => { results := [.lit (.bool false)], args := [d1, d2] }
  | _ => none }
def FnExactFramePagesWrongFalsely : Prop := fnExactFramePagesRow.holds Tryz.pinned (OpenSpec.ofChange fnExactFramePagesWrong)

/-- 'laws.FnExactHeapNew': WHATEVER THE INPUT: true; the input reads as it did. -/
def fnExactHeapNewSpec : ChangeSpec := { name := "fnExactHeapNew", fn := fun _ => fun
  | [d1, d2, d3, d4, d5] => { results := [.lit (.bool true)], args := [d1, d2, d3, d4, d5] }
  | _ => none }
def fnExactHeapNewRow : OpenClaim := { program := "ytbdgkoalfnehoaagreat", sum := "f190b6e5c0420c355ab6924539c41380a1cc38fe5c94ee5efc07218e8a5f60b8", func := "loop.example/g00978/laws.FnExactHeapNew", spec := "fnExactHeapNew", apart := false }
def FnExactHeapNewSaid : Prop := fnExactHeapNewRow.holds Tryz.pinned (OpenSpec.ofChange fnExactHeapNewSpec)

/-- ITS FALSE NEIGHBOUR: 'it returns false'. Refute it at one input. -/
def fnExactHeapNewWrong : ChangeSpec := { name := "fnExactHeapNew", fn := fun _ => fun
  | [d1, d2, d3, d4, d5] => { results := [.lit (.bool false)], args := [d1, d2, d3, d4, d5] }
  | _ => none }
def FnExactHeapNewWrongFalsely : Prop := fnExactHeapNewRow.holds Tryz.pinned (OpenSpec.ofChange fnExactHeapNewWrong)

/-- 'laws.FnExactMeshSpans': WHATEVER THE INPUT: true; the input reads as it did. -/
def fnExactMeshSpansSpec : ChangeSpec := { name := "fnExactMeshSpans", fn := fun _ => fun
  | [d] => { results := [.lit (.bool true)], args := [d] }
  | _ => none }
def fnExactMeshSpansRow : OpenClaim := { program := "ytbdgkoalfnehoaagreat", sum := "f190b6e5c0420c355ab6924539c41380a1cc38fe5c94ee5efc07218e8a5f60b8", func := "loop.example/g00978/laws.FnExactMeshSpans", spec := "fnExactMeshSpans", apart := false }
def FnExactMeshSpansSaid : Prop := fnExactMeshSpansRow.holds Tryz.pinned (OpenSpec.ofChange fnExactMeshSpansSpec)

/-- ITS FALSE NEIGHBOUR: 'it returns false'. Refute it at one input. -/
def fnExactMeshSpansWrong : ChangeSpec := { name := "fnExactMeshSpans", fn := fun _ => fun
  | [d] => { results := [.lit (.bool false)], args := [d] }
  | _ => none }
def FnExactMeshSpansWrongFalsely : Prop := fnExactMeshSpansRow.holds Tryz.pinned (OpenSpec.ofChange fnExactMeshSpansWrong)

/-- 'laws.FnExactWorldNew': WHATEVER THE INPUT: true; the input reads as it did. -/
def fnExactWorldNewSpec : ChangeSpec := { name := "fnExactWorldNew", fn := fun _ => fun
  | [d] => { results := [.lit (.bool true)], args := [d] }
  | _ => none }
def fnExactWorldNewRow : OpenClaim := { program := "ytbdgkoalfnehoaagreat", sum := "f190b6e5c0420c355ab6924539c41380a1cc38fe5c94ee5efc07218e8a5f60b8", func := "loop.example/g00978/laws.FnExactWorldNew", spec := "fnExactWorldNew", apart := false }
def FnExactWorldNewSaid : Prop := fnExactWorldNewRow.holds Tryz.pinned (OpenSpec.ofChange fnExactWorldNewSpec)

/-- ITS FALSE NEIGHBOUR: 'it returns false'. Refute it at one input. -/
def fnExactWorldNewWrong : ChangeSpec := { name := "fnExactWorldNew", fn := fun _ => fun
  | [d] => { results := [.lit (.bool false)], args := [d] }
  | _ => none }
def FnExactWorldNewWrongFalsely : Prop := fnExactWorldNewRow.holds Tryz.pinned (OpenSpec.ofChange fnExactWorldNewWrong)

/- THE SECOND FORM. 'bulk': how many values and letters a reading holds, each counted each time it is reached (what is shared counts as often as it is met; a slice's spare places count too). A statement '..UptoSaid' is the law's where the arguments, and the package variables that the reading takes, are together of bulk at most 1048576: NARROWER than '..Said'. Prove '..Said' where nothing that the law and all that it calls make is longer than what came in: it says more and counts as full. Else prove '..UptoSaid'. A law counts once. -/
mutual
def uptoBulk {H : Type} : DataW H → Nat
  | .lit (.string bytes) => bytes.length + 1
  | .lit _ => 1
  | .nil => 1
  | .ptr d => uptoBulk d + 1
  | .slice elems spare => uptoBulkAll elems + uptoBulkAll spare + 1
  | .agg parts => uptoBulkAll parts + 1
  | .iface _ d => uptoBulk d + 1
  | .map entries => uptoBulkEntries entries + 1
  | .held _ => 1
def uptoBulkAll {H : Type} : List (DataW H) → Nat
  | [] => 0
  | d :: r => uptoBulk d + uptoBulkAll r
def uptoBulkEntries {H : Type} : List (Lit × DataW H) → Nat
  | [] => 0
  | x :: r => uptoBulkEntry x + uptoBulkEntries r
def uptoBulkEntry {H : Type} : Lit × DataW H → Nat
  | (.string bytes, d) => bytes.length + uptoBulk d + 1
  | (_, d) => uptoBulk d + 1
 end
def uptoSmall : (H : Type) → List (DataW H) → Bool := fun _ ds => decide (uptoBulkAll ds ≤ 1048576)
def OpenSpec.upto (s : _root_.Go.ChangeSpec) : _root_.Go.OpenSpec := { _root_.Go.OpenSpec.ofChange s with cond := some uptoSmall }

/-- 'laws.FnExactFramePages', WHERE WHAT IT READS IS OF BULK AT MOST 1048576: true; the input reads as it did. -/
def fnExactFramePagesUptoRow : OpenClaim := { program := "ytbdgkoalfnehoaagreat", sum := "f190b6e5c0420c355ab6924539c41380a1cc38fe5c94ee5efc07218e8a5f60b8", func := "loop.example/g00978/laws.FnExactFramePages", spec := "fnExactFramePages", apart := false, narrowed := true }
def FnExactFramePagesUptoSaid : Prop := fnExactFramePagesUptoRow.holds Tryz.pinned (OpenSpec.upto fnExactFramePagesSpec)

/-- 'laws.FnExactHeapNew', WHERE WHAT IT READS IS OF BULK AT MOST 1048576: true; the input reads as it did. -/
def fnExactHeapNewUptoRow : OpenClaim := { program := "ytbdgkoalfnehoaagreat", sum := "f190b6e5c0420c355ab6924539c41380a1cc38fe5c94ee5efc07218e8a5f60b8", func := "loop.example/g00978/laws.FnExactHeapNew", spec := "fnExactHeapNew", apart := false, narrowed := true }
def FnExactHeapNewUptoSaid : Prop := fnExactHeapNewUptoRow.holds Tryz.pinned (OpenSpec.upto fnExactHeapNewSpec)

/-- 'laws.FnExactMeshSpans', WHERE WHAT IT READS IS OF BULK AT MOST 1048576: true; the input reads as it did. -/
def fnExactMeshSpansUptoRow : OpenClaim := { program := "ytbdgkoalfnehoaagreat", sum := "f190b6e5c0420c355ab6924539c41380a1cc38fe5c94ee5efc07218e8a5f60b8", func := "loop.example/g00978/laws.FnExactMeshSpans", spec := "fnExactMeshSpans", apart := false, narrowed := true }
def FnExactMeshSpansUptoSaid : Prop := fnExactMeshSpansUptoRow.holds Tryz.pinned (OpenSpec.upto fnExactMeshSpansSpec)

/-- 'laws.FnExactWorldNew', WHERE WHAT IT READS IS OF BULK AT MOST 1048576: true; the input reads as it did. -/
def fnExactWorldNewUptoRow : OpenClaim := { program := "ytbdgkoalfnehoaagreat", sum := "f190b6e5c0420c355ab6924539c41380a1cc38fe5c94ee5efc07218e8a5f60b8", func := "loop.example/g00978/laws.FnExactWorldNew", spec := "fnExactWorldNew", apart := false, narrowed := true }
def FnExactWorldNewUptoSaid : Prop := fnExactWorldNewUptoRow.holds Tryz.pinned (OpenSpec.upto fnExactWorldNewSpec)

end Rows
end Go.Proofs.YtbdgkoalfnehoaaGreat
