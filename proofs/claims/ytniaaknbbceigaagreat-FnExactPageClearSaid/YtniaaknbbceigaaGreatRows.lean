/-
  No cell of these rows narrows 'for every input' (looked for: loops, veiled, ifaces, maps, wideKeys, modest, calm, conditions, laid).
  DERIVED. THE GIVEN ROWS OF THIS SEAT. 7 by the template 'for every input the law returns true; each argument reads behind the call as it read before'; 0 by the template 'total and deterministic' (their statements: YtniaaknbbceigaaGreatTotals.lean).
  GIVEN WITH THE SEED: the statements are not yours to turn. If you find one false, say at which input.
  Laid BY PROGRAM, IN A SANDBOX (cutbox-rows.mjs): the forced cells as the released guide's own fill.sh prints them over the translation 30b999e0bc8df891… (all of the seat's roots in one cut). By AI agents, Wed Nov 11 2026. No macro, syntax, notation, axiom, sorry.
-/
import Derived.Test.YtniaaknbbceigaaGreatChecked
import GoSem.Claim
import GoSem.ClaimJoined
import GoSem.ClaimMapViews
import Derived.JoinedTies
import Derived.KernelRfl
namespace Go.Proofs.YtniaaknbbceigaaGreat
/- THE CELL 'sum', in the pinned program and in every row, IS THE sha256 OF THE DUMP (.gsa) THAT YtniaaknbbceigaaGreatProg.lean LOADS. Nothing in Lean hashes anything: it is a label: what it is worth is what the hold of that sum in a sandbox is worth. -/
noncomputable def Tryz.pinned : Pinned := { name := "ytniaaknbbceigaagreat", sum := "30b999e0bc8df8911f4aac76f41a22ae96b3b175b43861a9626fafea16c5146b", checked := Tryz.checked }
namespace Rows
def none {H : Type} : Left H := { results := [], args := [] }

/-- 'laws.FnExactObjectOf': WHATEVER THE INPUT: true; the input reads as it did. -/
def fnExactObjectOfSpec : ChangeSpec := { name := "fnExactObjectOf", fn := fun _ => fun
  | [d1, d2] => { results := [.lit (.bool true)], args := [d1, d2] }
  | _ => none }
def fnExactObjectOfRow : OpenClaim := { program := "ytniaaknbbceigaagreat", sum := "30b999e0bc8df8911f4aac76f41a22ae96b3b175b43861a9626fafea16c5146b", func := "loop.example/g00978/laws.FnExactObjectOf", spec := "fnExactObjectOf", unfollowed := true, recurses := true, apart := false }
def FnExactObjectOfSaid : Prop := fnExactObjectOfRow.holds Tryz.pinned (OpenSpec.ofChange fnExactObjectOfSpec)

/-- ITS FALSE NEIGHBOUR: 'it returns false'. Refute it at one input. -/
def fnExactObjectOfWrong : ChangeSpec := { name := "fnExactObjectOf", fn := fun _ => fun
  | [d1, d2] => { results := [.lit (.bool false)], args := [d1, d2] }
  | _ => none }
def FnExactObjectOfWrongFalsely : Prop := fnExactObjectOfRow.holds Tryz.pinned (OpenSpec.ofChange fnExactObjectOfWrong)

/-- 'laws.FnExactSavedFrames': WHATEVER THE INPUT: true; the input reads as it did. -/
def fnExactSavedFramesSpec : ChangeSpec := { name := "fnExactSavedFrames", fn := fun _ => fun
  | [d] => { results := [.lit (.bool true)], args := [d] }
  | _ => none }
def fnExactSavedFramesRow : OpenClaim := { program := "ytniaaknbbceigaagreat", sum := "30b999e0bc8df8911f4aac76f41a22ae96b3b175b43861a9626fafea16c5146b", func := "loop.example/g00978/laws.FnExactSavedFrames", spec := "fnExactSavedFrames", unfollowed := true, recurses := true, apart := false }
def FnExactSavedFramesSaid : Prop := fnExactSavedFramesRow.holds Tryz.pinned (OpenSpec.ofChange fnExactSavedFramesSpec)

/-- ITS FALSE NEIGHBOUR: 'it returns false'. Refute it at one input. -/
def fnExactSavedFramesWrong : ChangeSpec := { name := "fnExactSavedFrames", fn := fun _ => fun
  | [d] => { results := [.lit (.bool false)], args := [d] }
  | _ => none }
def FnExactSavedFramesWrongFalsely : Prop := fnExactSavedFramesRow.holds Tryz.pinned (OpenSpec.ofChange fnExactSavedFramesWrong)

/-- 'laws.FnExactHeapLoad': WHATEVER THE INPUT: true; the input reads as it did. -/
def fnExactHeapLoadSpec : ChangeSpec := { name := "fnExactHeapLoad", fn := fun _ => fun
  | [d1, d2] => { results := [.lit (.bool true)], args := [d1, d2] }
  | _ => none }
def fnExactHeapLoadRow : OpenClaim := { program := "ytniaaknbbceigaagreat", sum := "30b999e0bc8df8911f4aac76f41a22ae96b3b175b43861a9626fafea16c5146b", func := "loop.example/g00978/laws.FnExactHeapLoad", spec := "fnExactHeapLoad", unfollowed := true, recurses := true, apart := false }
def FnExactHeapLoadSaid : Prop := fnExactHeapLoadRow.holds Tryz.pinned (OpenSpec.ofChange fnExactHeapLoadSpec)

/-- ITS FALSE NEIGHBOUR: 'it returns false'. Refute it at one input. -/
def fnExactHeapLoadWrong : ChangeSpec := { name := "fnExactHeapLoad", fn := fun _ => fun
  | [d1, d2] => { results := [.lit (.bool false)], args := [d1, d2] }
  | _ => none }
def FnExactHeapLoadWrongFalsely : Prop := fnExactHeapLoadRow.holds Tryz.pinned (OpenSpec.ofChange fnExactHeapLoadWrong)

/-- 'laws.FnExactPageClear': WHATEVER THE INPUT: true; the input reads as it did. -/
def fnExactPageClearSpec : ChangeSpec := { name := "fnExactPageClear", fn := fun _ => fun
  | [d1, d2] => { results := [.lit (.bool true)], args := [d1, d2] }
  | _ => none }
def fnExactPageClearRow : OpenClaim := { program := "ytniaaknbbceigaagreat", sum := "30b999e0bc8df8911f4aac76f41a22ae96b3b175b43861a9626fafea16c5146b", func := "loop.example/g00978/laws.FnExactPageClear", spec := "fnExactPageClear", unfollowed := true, recurses := true, apart := false }
def FnExactPageClearSaid : Prop := fnExactPageClearRow.holds Tryz.pinned (OpenSpec.ofChange fnExactPageClearSpec)

/-- ITS FALSE NEIGHBOUR: 'it returns false'. Refute it at one input. -/
def fnExactPageClearWrong : ChangeSpec := { name := "fnExactPageClear", fn := fun _ => fun
  | [d1, d2] => { results := [.lit (.bool false)], args := [d1, d2] }
  | _ => none }
def FnExactPageClearWrongFalsely : Prop := fnExactPageClearRow.holds Tryz.pinned (OpenSpec.ofChange fnExactPageClearWrong)

/-- 'laws.FnExactRefSame': WHATEVER THE INPUT: true; the input reads as it did. -/
def fnExactRefSameSpec : ChangeSpec := { name := "fnExactRefSame", fn := fun _ => fun
  | [d1, d2] => { results := [.lit (.bool true)], args := [d1, d2] }
  | _ => none }
def fnExactRefSameRow : OpenClaim := { program := "ytniaaknbbceigaagreat", sum := "30b999e0bc8df8911f4aac76f41a22ae96b3b175b43861a9626fafea16c5146b", func := "loop.example/g00978/laws.FnExactRefSame", spec := "fnExactRefSame", unfollowed := true, recurses := true, apart := false }
def FnExactRefSameSaid : Prop := fnExactRefSameRow.holds Tryz.pinned (OpenSpec.ofChange fnExactRefSameSpec)

/-- ITS FALSE NEIGHBOUR: 'it returns false'. Refute it at one input. -/
def fnExactRefSameWrong : ChangeSpec := { name := "fnExactRefSame", fn := fun _ => fun
  | [d1, d2] => { results := [.lit (.bool false)], args := [d1, d2] }
  | _ => none }
def FnExactRefSameWrongFalsely : Prop := fnExactRefSameRow.holds Tryz.pinned (OpenSpec.ofChange fnExactRefSameWrong)

/-- 'laws.FnExactAccountOf': WHATEVER THE INPUT: true; the input reads as it did. -/
def fnExactAccountOfSpec : ChangeSpec := { name := "fnExactAccountOf", fn := fun _ => fun
  | [d] => { results := [.lit (.bool true)], args := [d] }
  | _ => none }
def fnExactAccountOfRow : OpenClaim := { program := "ytniaaknbbceigaagreat", sum := "30b999e0bc8df8911f4aac76f41a22ae96b3b175b43861a9626fafea16c5146b", func := "loop.example/g00978/laws.FnExactAccountOf", spec := "fnExactAccountOf", unfollowed := true, recurses := true, apart := false }
def FnExactAccountOfSaid : Prop := fnExactAccountOfRow.holds Tryz.pinned (OpenSpec.ofChange fnExactAccountOfSpec)

/-- ITS FALSE NEIGHBOUR: 'it returns false'. Refute it at one input. -/
def fnExactAccountOfWrong : ChangeSpec := { name := "fnExactAccountOf", fn := fun _ => fun
  | [d] => { results := [.lit (.bool false)], args := [d] }
  | _ => none }
def FnExactAccountOfWrongFalsely : Prop := fnExactAccountOfRow.holds Tryz.pinned (OpenSpec.ofChange fnExactAccountOfWrong)

/-- 'laws.FnExactContents': WHATEVER THE INPUT: true; the input reads as it did. -/
def fnExactContentsSpec : ChangeSpec := { name := "fnExactContents", fn := fun _ => fun
  | [d1, d2] => { results := [.lit (.bool true)], args := [d1, d2] }
  | _ => none }
def fnExactContentsRow : OpenClaim := { program := "ytniaaknbbceigaagreat", sum := "30b999e0bc8df8911f4aac76f41a22ae96b3b175b43861a9626fafea16c5146b", func := "loop.example/g00978/laws.FnExactContents", spec := "fnExactContents", unfollowed := true, recurses := true, apart := false }
def FnExactContentsSaid : Prop := fnExactContentsRow.holds Tryz.pinned (OpenSpec.ofChange fnExactContentsSpec)

/-- ITS FALSE NEIGHBOUR: 'it returns false'. Refute it at one input. -/
def fnExactContentsWrong : ChangeSpec := { name := "fnExactContents", fn := fun _ => fun
  | [d1, d2] => { results := [.lit (.bool false)], args := [d1, d2] }
  | _ => none }
def FnExactContentsWrongFalsely : Prop := fnExactContentsRow.holds Tryz.pinned (OpenSpec.ofChange fnExactContentsWrong)

/- THE SECOND FORM. 'bulk': how many values and letters a reading holds, each counted each time it is reached (what is shared counts as often as it is met; a slice's spare places count too). A statement '..UptoSaid' is the law's where the arguments, and the package variables that the reading takes, are together of bulk at most 1048576: NARROWER than '..Said'. Prove '..Said' where nothing that the law and all that it calls make is longer than what came in: it says more and counts as full. Else prove '..UptoSaid'. A law counts once. -/
mutual
def uptoBulk {H : Type} : DataW H → Nat
  | .lit (.string bytes) => bytes.length + 1
  | .lit _ => 1
  | .nil => 1
  | .ptr d => uptoBulk d + 1
  | .slice elems spare => uptoBulkAll elems + uptoBulkAll spare + 1
  | .agg parts => uptoBulkAll parts + 1
  | .iface _ d => uptoBulk d + 1
  | .map entries => uptoBulkEntries entries + 1
  | .held _ => 1
def uptoBulkAll {H : Type} : List (DataW H) → Nat
  | [] => 0
  | d :: r => uptoBulk d + uptoBulkAll r
def uptoBulkEntries {H : Type} : List (Lit × DataW H) → Nat
  | [] => 0
  | x :: r => uptoBulkEntry x + uptoBulkEntries r
def uptoBulkEntry {H : Type} : Lit × DataW H → Nat
  | (.string bytes, d) => bytes.length + uptoBulk d + 1
  | (_, d) => uptoBulk d + 1
 end
def uptoSmall : (H : Type) → List (DataW H) → Bool := fun _ ds => decide (uptoBulkAll ds ≤ 1048576)
def OpenSpec.upto (s : _root_.Go.ChangeSpec) : _root_.Go.OpenSpec := { _root_.Go.OpenSpec.ofChange s with cond := some uptoSmall }

/-- 'laws.FnExactObjectOf', WHERE WHAT IT READS IS OF BULK AT MOST 1048576: true; the input reads as it did. -/
def fnExactObjectOfUptoRow : OpenClaim := { program := "ytniaaknbbceigaagreat", sum := "30b999e0bc8df8911f4aac76f41a22ae96b3b175b43861a9626fafea16c5146b", func := "loop.example/g00978/laws.FnExactObjectOf", spec := "fnExactObjectOf", unfollowed := true, recurses := true, apart := false, narrowed := true }
def FnExactObjectOfUptoSaid : Prop := fnExactObjectOfUptoRow.holds Tryz.pinned (OpenSpec.upto fnExactObjectOfSpec)

/-- 'laws.FnExactSavedFrames', WHERE WHAT IT READS IS OF BULK AT MOST 1048576: true; the input reads as it did. -/
def fnExactSavedFramesUptoRow : OpenClaim := { program := "ytniaaknbbceigaagreat", sum := "30b999e0bc8df8911f4aac76f41a22ae96b3b175b43861a9626fafea16c5146b", func := "loop.example/g00978/laws.FnExactSavedFrames", spec := "fnExactSavedFrames", unfollowed := true, recurses := true, apart := false, narrowed := true }
def FnExactSavedFramesUptoSaid : Prop := fnExactSavedFramesUptoRow.holds Tryz.pinned (OpenSpec.upto fnExactSavedFramesSpec)

/-- 'laws.FnExactHeapLoad', WHERE WHAT IT READS IS OF BULK AT MOST 1048576: true; the input reads as it did. -/
def fnExactHeapLoadUptoRow : OpenClaim := { program := "ytniaaknbbceigaagreat", sum := "30b999e0bc8df8911f4aac76f41a22ae96b3b175b43861a9626fafea16c5146b", func := "loop.example/g00978/laws.FnExactHeapLoad", spec := "fnExactHeapLoad", unfollowed := true, recurses := true, apart := false, narrowed := true }
def FnExactHeapLoadUptoSaid : Prop := fnExactHeapLoadUptoRow.holds Tryz.pinned (OpenSpec.upto fnExactHeapLoadSpec)

/-- 'laws.FnExactPageClear', WHERE WHAT IT READS IS OF BULK AT MOST 1048576: true; the input reads as it did. -/
def fnExactPageClearUptoRow : OpenClaim := { program := "ytniaaknbbceigaagreat", sum := "30b999e0bc8df8911f4aac76f41a22ae96b3b175b43861a9626fafea16c5146b", func := "loop.example/g00978/laws.FnExactPageClear", spec := "fnExactPageClear", unfollowed := true, recurses := true, apart := false, narrowed := true }
def FnExactPageClearUptoSaid : Prop := fnExactPageClearUptoRow.holds Tryz.pinned (OpenSpec.upto fnExactPageClearSpec)

/-- 'laws.FnExactRefSame', WHERE WHAT IT READS IS OF BULK AT MOST 1048576: true; the input reads as it did. -/
def fnExactRefSameUptoRow : OpenClaim := { program := "ytniaaknbbceigaagreat", sum := "30b999e0bc8df8911f4aac76f41a22ae96b3b175b43861a9626fafea16c5146b", func := "loop.example/g00978/laws.FnExactRefSame", spec := "fnExactRefSame", unfollowed := true, recurses := true, apart := false, narrowed := true }
def FnExactRefSameUptoSaid : Prop := fnExactRefSameUptoRow.holds Tryz.pinned (OpenSpec.upto fnExactRefSameSpec)

/-- 'laws.FnExactAccountOf', WHERE WHAT IT READS IS OF BULK AT MOST 1048576: true; the input reads as it did. -/
def fnExactAccountOfUptoRow : OpenClaim := { program := "ytniaaknbbceigaagreat", sum := "30b999e0bc8df8911f4aac76f41a22ae96b3b175b43861a9626fafea16c5146b", func := "loop.example/g00978/laws.FnExactAccountOf", spec := "fnExactAccountOf", unfollowed := true, recurses := true, apart := false, narrowed := true }
def FnExactAccountOfUptoSaid : Prop := fnExactAccountOfUptoRow.holds Tryz.pinned (OpenSpec.upto fnExactAccountOfSpec)

/-- 'laws.FnExactContents', WHERE WHAT IT READS IS OF BULK AT MOST 1048576: true; the input reads as it did. -/
def fnExactContentsUptoRow : OpenClaim := { program := "ytniaaknbbceigaagreat", sum := "30b999e0bc8df8911f4aac76f41a22ae96b3b175b43861a9626fafea16c5146b", func := "loop.example/g00978/laws.FnExactContents", spec := "fnExactContents", unfollowed := true, recurses := true, apart := false, narrowed := true }
def FnExactContentsUptoSaid : Prop := fnExactContentsUptoRow.holds Tryz.pinned (OpenSpec.upto fnExactContentsSpec)

end Rows
end Go.Proofs.YtniaaknbbceigaaGreat
