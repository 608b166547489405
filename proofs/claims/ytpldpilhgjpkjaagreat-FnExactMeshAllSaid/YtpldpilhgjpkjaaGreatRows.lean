/-
  No cell of these rows narrows 'for every input' (looked for: loops, veiled, ifaces, maps, wideKeys, modest, calm, conditions, laid).
  DERIVED. THE GIVEN ROWS OF THIS SEAT. 5 by the template 'for every input the law returns true; each argument reads behind the call as it read before'; 0 by the template 'total and deterministic' (their statements: YtpldpilhgjpkjaaGreatTotals.lean).
  GIVEN WITH THE SEED: the statements are not yours to turn. If you find one false, say at which input.
  Laid BY PROGRAM, IN A SANDBOX (cutbox-rows.mjs): the forced cells as the released guide's own fill.sh prints them over the translation 6c5832da0fcf04d2… (all of the seat's roots in one cut). By AI agents, Wed Nov 11 2026. No macro, syntax, notation, axiom, sorry.
-/
import Derived.Test.YtpldpilhgjpkjaaGreatChecked
import GoSem.Claim
import GoSem.ClaimJoined
import GoSem.ClaimMapViews
import Derived.JoinedTies
import Derived.KernelRfl
namespace Go.Proofs.YtpldpilhgjpkjaaGreat
/- THE CELL 'sum', in the pinned program and in every row, IS THE sha256 OF THE DUMP (.gsa) THAT YtpldpilhgjpkjaaGreatProg.lean LOADS. Nothing in Lean hashes anything: it is a label: what it is worth is what the hold of that sum in a sandbox is worth. -/
noncomputable def Tryz.pinned : Pinned := { name := "ytpldpilhgjpkjaagreat", sum := "6c5832da0fcf04d27734f4cec6205ad48a2ea85004582a65f446a3356a608107", checked := Tryz.checked }
namespace Rows
def none {H : Type} : Left H := { results := [], args := [] }

/-- 'laws.FnOutside': WHATEVER THE INPUT: true; the input reads as it did. -/
def fnOutsideSpec : ChangeSpec := { name := "fnOutside", fn := fun _ => fun
  | [d] => { results := [.lit (.bool true)], args := [d] }
  | _ => none }
def fnOutsideRow : OpenClaim := { program := "ytpldpilhgjpkjaagreat", sum := "6c5832da0fcf04d27734f4cec6205ad48a2ea85004582a65f446a3356a608107", func := "loop.example/g00978/laws.FnOutside", spec := "fnOutside", inPlace := ["slices.overlaps[loop.example/g00978/impl.Span]", "slices.overlaps[loop.example/g00978/impl.Large]", "slices.overlaps[loop.example/g00978/impl.Obj]"], unfollowed := true, recurses := true, apart := false }
def FnOutsideSaid : Prop := fnOutsideRow.holds Tryz.pinned (OpenSpec.ofChange fnOutsideSpec)

/-- ITS FALSE NEIGHBOUR: 'it returns false'. Refute it at one input. -/
def fnOutsideWrong : ChangeSpec := { name := "fnOutside", fn := fun _ => fun
  | [d] => { results := [.lit (.bool false)], args := [d] }
  | _ => none }
def FnOutsideWrongFalsely : Prop := fnOutsideRow.holds Tryz.pinned (OpenSpec.ofChange fnOutsideWrong)

/-- 'laws.FnDelayed': WHATEVER THE INPUT: true; the input reads as it did. -/
def fnDelayedSpec : ChangeSpec := { name := "fnDelayed", fn := fun _ => fun
  | [d] => { results := [.lit (.bool true)], args := [d] }
  | _ => none }
def fnDelayedRow : OpenClaim := { program := "ytpldpilhgjpkjaagreat", sum := "6c5832da0fcf04d27734f4cec6205ad48a2ea85004582a65f446a3356a608107", func := "loop.example/g00978/laws.FnDelayed", spec := "fnDelayed", inPlace := ["slices.overlaps[loop.example/g00978/impl.Span]", "slices.overlaps[loop.example/g00978/impl.Large]", "slices.overlaps[loop.example/g00978/impl.Obj]"], unfollowed := true, recurses := true, apart := false }
def FnDelayedSaid : Prop := fnDelayedRow.holds Tryz.pinned (OpenSpec.ofChange fnDelayedSpec)

/-- ITS FALSE NEIGHBOUR: 'it returns false'. Refute it at one input. -/
def fnDelayedWrong : ChangeSpec := { name := "fnDelayed", fn := fun _ => fun
  | [d] => { results := [.lit (.bool false)], args := [d] }
  | _ => none }
def FnDelayedWrongFalsely : Prop := fnDelayedRow.holds Tryz.pinned (OpenSpec.ofChange fnDelayedWrong)

/-- 'laws.FnRemote': WHATEVER THE INPUT: true; the input reads as it did. -/
def fnRemoteSpec : ChangeSpec := { name := "fnRemote", fn := fun _ => fun
  | [d] => { results := [.lit (.bool true)], args := [d] }
  | _ => none }
def fnRemoteRow : OpenClaim := { program := "ytpldpilhgjpkjaagreat", sum := "6c5832da0fcf04d27734f4cec6205ad48a2ea85004582a65f446a3356a608107", func := "loop.example/g00978/laws.FnRemote", spec := "fnRemote", inPlace := ["slices.overlaps[loop.example/g00978/impl.Span]", "slices.overlaps[loop.example/g00978/impl.Large]", "slices.overlaps[loop.example/g00978/impl.Obj]"], unfollowed := true, recurses := true, apart := false }
def FnRemoteSaid : Prop := fnRemoteRow.holds Tryz.pinned (OpenSpec.ofChange fnRemoteSpec)

/-- ITS FALSE NEIGHBOUR: 'it returns false'. Refute it at one input. -/
def fnRemoteWrong : ChangeSpec := { name := "fnRemote", fn := fun _ => fun
  | [d] => { results := [.lit (.bool false)], args := [d] }
  | _ => none }
def FnRemoteWrongFalsely : Prop := fnRemoteRow.holds Tryz.pinned (OpenSpec.ofChange fnRemoteWrong)

/-- 'laws.FnSaves': WHATEVER THE INPUT: true; the input reads as it did. -/
def fnSavesSpec : ChangeSpec := { name := "fnSaves", fn := fun _ => fun
  | [d] => { results := [.lit (.bool true)], args := [d] }
  | _ => none }
def fnSavesRow : OpenClaim := { program := "ytpldpilhgjpkjaagreat", sum := "6c5832da0fcf04d27734f4cec6205ad48a2ea85004582a65f446a3356a608107", func := "loop.example/g00978/laws.FnSaves", spec := "fnSaves", inPlace := ["slices.overlaps[loop.example/g00978/impl.Span]", "slices.overlaps[loop.example/g00978/impl.Large]", "slices.overlaps[loop.example/g00978/impl.Obj]"], unfollowed := true, recurses := true, apart := false }
def FnSavesSaid : Prop := fnSavesRow.holds Tryz.pinned (OpenSpec.ofChange fnSavesSpec)

/-- ITS FALSE NEIGHBOUR: 'it returns false'. Refute it at one input. -/
def fnSavesWrong : ChangeSpec := { name := "fnSaves", fn := fun _ => fun
  | [d] => { results := [.lit (.bool false)], args := [d] }
  | _ => none }
def FnSavesWrongFalsely : Prop := fnSavesRow.holds Tryz.pinned (OpenSpec.ofChange fnSavesWrong)

/-- 'laws.FnExactMeshAll': WHATEVER THE INPUT: true; the input reads as it did. -/
def fnExactMeshAllSpec : ChangeSpec := { name := "fnExactMeshAll", fn := fun _ => fun
  | [d1, d2] => { results := [.lit (.bool true)], args := [d1, d2] }
  | _ => none }
def fnExactMeshAllRow : OpenClaim := { program := "ytpldpilhgjpkjaagreat", sum := "6c5832da0fcf04d27734f4cec6205ad48a2ea85004582a65f446a3356a608107", func := "loop.example/g00978/laws.FnExactMeshAll", spec := "fnExactMeshAll", unfollowed := true, recurses := true, apart := false }
def FnExactMeshAllSaid : Prop := fnExactMeshAllRow.holds Tryz.pinned (OpenSpec.ofChange fnExactMeshAllSpec)

/-- ITS FALSE NEIGHBOUR: 'it returns false'. Refute it at one input. -/
def fnExactMeshAllWrong : ChangeSpec := { name := "fnExactMeshAll", fn := fun _ => fun
  | [d1, d2] => { results := [.lit (.bool false)], args := [d1, d2] }
  | _ => none }
def FnExactMeshAllWrongFalsely : Prop := fnExactMeshAllRow.holds Tryz.pinned (OpenSpec.ofChange fnExactMeshAllWrong)

/- THE SECOND FORM. 'bulk': how many values and letters a reading holds, each counted each time it is reached (what is shared counts as often as it is met; a slice's spare places count too). A statement '..UptoSaid' is the law's where the arguments, and the package variables that the reading takes, are together of bulk at most 1048576: NARROWER than '..Said'. Prove '..Said' where nothing that the law and all that it calls make is longer than what came in: it says more and counts as full. Else prove '..UptoSaid'. A law counts once. -/
mutual
def uptoBulk {H : Type} : DataW H → Nat
  | .lit (.string bytes) => bytes.length + 1
  | .lit _ => 1
  | .nil => 1
  | .ptr d => uptoBulk d + 1
  | .slice elems spare => uptoBulkAll elems + uptoBulkAll spare + 1
  | .agg parts => uptoBulkAll parts + 1
  | .iface _ d => uptoBulk d + 1
  | .map entries => uptoBulkEntries entries + 1
  | .held _ => 1
def uptoBulkAll {H : Type} : List (DataW H) → Nat
  | [] => 0
  | d :: r => uptoBulk d + uptoBulkAll r
def uptoBulkEntries {H : Type} : List (Lit × DataW H) → Nat
  | [] => 0
  | x :: r => uptoBulkEntry x + uptoBulkEntries r
def uptoBulkEntry {H : Type} : Lit × DataW H → Nat
  | (.string bytes, d) => bytes.length + uptoBulk d + 1
  | (_, d) => uptoBulk d + 1
 end
def uptoSmall : (H : Type) → List (DataW H) → Bool := fun _ ds => decide (uptoBulkAll ds ≤ 1048576)
def OpenSpec.upto (s : _root_.Go.ChangeSpec) : _root_.Go.OpenSpec := { _root_.Go.OpenSpec.ofChange s with cond := some uptoSmall }

/-- 'laws.FnOutside', WHERE WHAT IT READS IS OF BULK AT MOST 1048576: true; the input reads as it did. -/
def fnOutsideUptoRow : OpenClaim := { program := "ytpldpilhgjpkjaagreat", sum := "6c5832da0fcf04d27734f4cec6205ad48a2ea85004582a65f446a3356a608107", func := "loop.example/g00978/laws.FnOutside", spec := "fnOutside", inPlace := ["slices.overlaps[loop.example/g00978/impl.Span]", "slices.overlaps[loop.example/g00978/impl.Large]", "slices.overlaps[loop.example/g00978/impl.Obj]"], unfollowed := true, recurses := true, apart := false, narrowed := true }
def FnOutsideUptoSaid : Prop := fnOutsideUptoRow.holds Tryz.pinned (OpenSpec.upto fnOutsideSpec)

/-- 'laws.FnDelayed', WHERE WHAT IT READS IS OF BULK AT MOST 1048576: true; the input reads as it did. -/
def fnDelayedUptoRow : OpenClaim := { program := "ytpldpilhgjpkjaagreat", sum := "6c5832da0fcf04d27734f4cec6205ad48a2ea85004582a65f446a3356a608107", func := "loop.example/g00978/laws.FnDelayed", spec := "fnDelayed", inPlace := ["slices.overlaps[loop.example/g00978/impl.Span]", "slices.overlaps[loop.example/g00978/impl.Large]", "slices.overlaps[loop.example/g00978/impl.Obj]"], unfollowed := true, recurses := true, apart := false, narrowed := true }
def FnDelayedUptoSaid : Prop := fnDelayedUptoRow.holds Tryz.pinned (OpenSpec.upto fnDelayedSpec)

/-- 'laws.FnRemote', WHERE WHAT IT READS IS OF BULK AT MOST 1048576: true; the input reads as it did. -/
def fnRemoteUptoRow : OpenClaim := { program := "ytpldpilhgjpkjaagreat", sum := "6c5832da0fcf04d27734f4cec6205ad48a2ea85004582a65f446a3356a608107", func := "loop.example/g00978/laws.FnRemote", spec := "fnRemote", inPlace := ["slices.overlaps[loop.example/g00978/impl.Span]", "slices.overlaps[loop.example/g00978/impl.Large]", "slices.overlaps[loop.example/g00978/impl.Obj]"], unfollowed := true, recurses := true, apart := false, narrowed := true }
def FnRemoteUptoSaid : Prop := fnRemoteUptoRow.holds Tryz.pinned (OpenSpec.upto fnRemoteSpec)

/-- 'laws.FnSaves', WHERE WHAT IT READS IS OF BULK AT MOST 1048576: true; the input reads as it did. -/
def fnSavesUptoRow : OpenClaim := { program := "ytpldpilhgjpkjaagreat", sum := "6c5832da0fcf04d27734f4cec6205ad48a2ea85004582a65f446a3356a608107", func := "loop.example/g00978/laws.FnSaves", spec := "fnSaves", inPlace := ["slices.overlaps[loop.example/g00978/impl.Span]", "slices.overlaps[loop.example/g00978/impl.Large]", "slices.overlaps[loop.example/g00978/impl.Obj]"], unfollowed := true, recurses := true, apart := false, narrowed := true }
def FnSavesUptoSaid : Prop := fnSavesUptoRow.holds Tryz.pinned (OpenSpec.upto fnSavesSpec)

/-- 'laws.FnExactMeshAll', WHERE WHAT IT READS IS OF BULK AT MOST 1048576: true; the input reads as it did. -/
def fnExactMeshAllUptoRow : OpenClaim := { program := "ytpldpilhgjpkjaagreat", sum := "6c5832da0fcf04d27734f4cec6205ad48a2ea85004582a65f446a3356a608107", func := "loop.example/g00978/laws.FnExactMeshAll", spec := "fnExactMeshAll", unfollowed := true, recurses := true, apart := false, narrowed := true }
def FnExactMeshAllUptoSaid : Prop := fnExactMeshAllUptoRow.holds Tryz.pinned (OpenSpec.upto fnExactMeshAllSpec)

end Rows
end Go.Proofs.YtpldpilhgjpkjaaGreat
