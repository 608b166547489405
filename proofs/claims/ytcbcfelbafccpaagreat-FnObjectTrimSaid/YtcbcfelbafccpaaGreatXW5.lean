/-
  slices.Clone at structs of scalars, as a contract of a function that only reads.
-/
import Derived.Test.YtcbcfelbafccpaaGreatXW3
import Derived.Shelf.SlicesE.Clone
set_option linter.all false
namespace Go.Proofs
open Go.Shelf Go.RowKit Go.Lib
variable {P: Program} {ρ : Ren}
set_option maxHeartbeats 2000000
set_option maxRecDepth 100000
end Go.Proofs
namespace Go.V
open Go Go.Sort Go.Proofs
end Go.V