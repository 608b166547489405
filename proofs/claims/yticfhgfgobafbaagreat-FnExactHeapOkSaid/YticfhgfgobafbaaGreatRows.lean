/-
  No cell of these rows narrows 'for every input' (looked for: loops, veiled, ifaces, maps, wideKeys, modest, calm, conditions, laid).
  DERIVED. THE GIVEN ROWS OF THIS SEAT. 2 by the template 'for every input the law returns true; each argument reads behind the call as it read before'; 0 by the template 'total and deterministic' (their statements: YticfhgfgobafbaaGreatTotals.lean).
  GIVEN WITH THE SEED: the statements are not yours to turn. If you find one false, say at which input.
  Laid BY PROGRAM, IN A SANDBOX (cutbox-rows.mjs): the forced cells as the released guide's own fill.sh prints them over the translation 3239791e9ae2ce77… (all of the seat's roots in one cut). By AI agents, Wed Nov 11 2026. No macro, syntax, notation, axiom, sorry.
-/
import Derived.Test.YticfhgfgobafbaaGreatChecked
import GoSem.Claim
import GoSem.ClaimJoined
import GoSem.ClaimMapViews
import Derived.JoinedTies
import Derived.KernelRfl
namespace Go.Proofs.YticfhgfgobafbaaGreat
/- THE CELL 'sum', in the pinned program and in every row, IS THE sha256 OF THE DUMP (.gsa) THAT YticfhgfgobafbaaGreatProg.lean LOADS. Nothing in Lean hashes anything: it is a label: what it is worth is what the hold of that sum in a sandbox is worth. -/
noncomputable def Tryz.pinned : Pinned := { name := "yticfhgfgobafbaagreat", sum := "3239791e9ae2ce77a5d02f6209ff9cb42214f1464a5cbfc793f2805c462596df", checked := Tryz.checked }
namespace Rows
def none {H : Type} : Left H := { results := [], args := [] }

/-- 'laws.FnExactLeaks': WHATEVER THE INPUT: true; the input reads as it did. -/
def fnExactLeaksSpec : ChangeSpec := { name := "fnExactLeaks", fn := fun _ => fun
  | [d] => { results := [.lit (.bool true)], args := [d] }
  | _ => none }
def fnExactLeaksRow : OpenClaim := { program := "yticfhgfgobafbaagreat", sum := "3239791e9ae2ce77a5d02f6209ff9cb42214f1464a5cbfc793f2805c462596df", func := "loop.example/g00978/laws.FnExactLeaks", spec := "fnExactLeaks", unfollowed := true, recurses := true, apart := false }
def FnExactLeaksSaid : Prop := fnExactLeaksRow.holds Tryz.pinned (OpenSpec.ofChange fnExactLeaksSpec)

/-- ITS FALSE NEIGHBOUR: 'it returns false'. Refute it at one input. -/
def fnExactLeaksWrong : ChangeSpec := { name := "fnExactLeaks", fn := fun _ => fun
  | [d] => { results := [.lit (.bool false)], args := [d] }
  | _ => none }
def FnExactLeaksWrongFalsely : Prop := fnExactLeaksRow.holds Tryz.pinned (OpenSpec.ofChange fnExactLeaksWrong)

/-- 'laws.FnExactHeapOk': WHATEVER THE INPUT: true; the input reads as it did. -/
def fnExactHeapOkSpec : ChangeSpec := { name := "fnExactHeapOk", fn := fun _ => fun
  | [d] => { results := [.lit (.bool true)], args := [d] }
  | _ => none }
def fnExactHeapOkRow : OpenClaim := { program := "yticfhgfgobafbaagreat", sum := "3239791e9ae2ce77a5d02f6209ff9cb42214f1464a5cbfc793f2805c462596df", func := "loop.example/g00978/laws.FnExactHeapOk", spec := "fnExactHeapOk", unfollowed := true, recurses := true, apart := false }
def FnExactHeapOkSaid : Prop := fnExactHeapOkRow.holds Tryz.pinned (OpenSpec.ofChange fnExactHeapOkSpec)

/-- ITS FALSE NEIGHBOUR: 'it returns false'. Refute it at one input. -/
def fnExactHeapOkWrong : ChangeSpec := { name := "fnExactHeapOk", fn := fun _ => fun
  | [d] => { results := [.lit (.bool false)], args := [d] }
  | _ => none }
def FnExactHeapOkWrongFalsely : Prop := fnExactHeapOkRow.holds Tryz.pinned (OpenSpec.ofChange fnExactHeapOkWrong)

/- THE SECOND FORM. 'bulk': how many values and letters a reading holds, each counted each time it is reached (what is shared counts as often as it is met; a slice's spare places count too). A statement '..UptoSaid' is the law's where the arguments, and the package variables that the reading takes, are together of bulk at most 1048576: NARROWER than '..Said'. Prove '..Said' where nothing that the law and all that it calls make is longer than what came in: it says more and counts as full. Else prove '..UptoSaid'. A law counts once. -/
mutual
def uptoBulk {H : Type} : DataW H → Nat
  | .lit (.string bytes) => bytes.length + 1
  | .lit _ => 1
  | .nil => 1
  | .ptr d => uptoBulk d + 1
  | .slice elems spare => uptoBulkAll elems + uptoBulkAll spare + 1
  | .agg parts => uptoBulkAll parts + 1
  | .iface _ d => uptoBulk d + 1
  | .map entries => uptoBulkEntries entries + 1
  | .held _ => 1
def uptoBulkAll {H : Type} : List (DataW H) → Nat
  | [] => 0
  | d :: r => uptoBulk d + uptoBulkAll r
def uptoBulkEntries {H : Type} : List (Lit × DataW H) → Nat
  | [] => 0
  | x :: r => uptoBulkEntry x + uptoBulkEntries r
def uptoBulkEntry {H : Type} : Lit × DataW H → Nat
  | (.string bytes, d) => bytes.length + uptoBulk d + 1
  | (_, d) => uptoBulk d + 1
 end
def uptoSmall : (H : Type) → List (DataW H) → Bool := fun _ ds => decide (uptoBulkAll ds ≤ 1048576)
def OpenSpec.upto (s : _root_.Go.ChangeSpec) : _root_.Go.OpenSpec := { _root_.Go.OpenSpec.ofChange s with cond := some uptoSmall }

/-- 'laws.FnExactLeaks', WHERE WHAT IT READS IS OF BULK AT MOST 1048576: true; the input reads as it did. -/
def fnExactLeaksUptoRow : OpenClaim := { program := "yticfhgfgobafbaagreat", sum := "3239791e9ae2ce77a5d02f6209ff9cb42214f1464a5cbfc793f2805c462596df", func := "loop.example/g00978/laws.FnExactLeaks", spec := "fnExactLeaks", unfollowed := true, recurses := true, apart := false, narrowed := true }
def FnExactLeaksUptoSaid : Prop := fnExactLeaksUptoRow.holds Tryz.pinned (OpenSpec.upto fnExactLeaksSpec)

/-- 'laws.FnExactHeapOk', WHERE WHAT IT READS IS OF BULK AT MOST 1048576: true; the input reads as it did. -/
def fnExactHeapOkUptoRow : OpenClaim := { program := "yticfhgfgobafbaagreat", sum := "3239791e9ae2ce77a5d02f6209ff9cb42214f1464a5cbfc793f2805c462596df", func := "loop.example/g00978/laws.FnExactHeapOk", spec := "fnExactHeapOk", unfollowed := true, recurses := true, apart := false, narrowed := true }
def FnExactHeapOkUptoSaid : Prop := fnExactHeapOkUptoRow.holds Tryz.pinned (OpenSpec.upto fnExactHeapOkSpec)

end Rows
end Go.Proofs.YticfhgfgobafbaaGreat
