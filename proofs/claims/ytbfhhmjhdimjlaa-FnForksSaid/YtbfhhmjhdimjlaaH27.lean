/-
  A fork that is dropped right away.
-/
import Derived.Test.YtbfhhmjhdimjlaaH26
set_option linter.all false
namespace Go.V
def twT (E : List (List L)) : List (List L) := [[.s 2 E], [.s 2 E]]
theorem cow_tw {C U E : List (List L)} (hm : machOk C U E = true) : cowOk C U (twT E) = true := by
 obtain ⟨f, t, u⟩ := mc_ok hm
 have fl := fr_len f
 refine co_yes (i := C.length) f rfl t t rfl (fun i i0 i1 => co_in ?_) (by omega)
 show gbI U i 0 = (mapsB E i || mapsB E i)
 rw [u i i0 i1, Bool.or_self]
end Go.V