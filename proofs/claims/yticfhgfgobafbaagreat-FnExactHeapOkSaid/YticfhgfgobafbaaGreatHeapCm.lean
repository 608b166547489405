/- Contracts. -/
import Derived.Test.YticfhgfgobafbaaGreatHeapBm
set_option linter.all false
namespace Go.V
open Go Go.Proofs
set_option maxRecDepth 1000000
set_option maxHeartbeats 8000000
namespace C1
structure aO where
 inR:Int->Int->Int->Bool
abbrev F0 :aO:=⟨inR⟩
def ct (F:aO):CT:=fun f ds=>match f,ds with
 |87,[.one (.v (.int .i64 x)),.one (.v (.int .i64 a)),.one (.v (.int .i64 b))]=>some (fun _=>True,[.k (F.inR x a b)])
 |71,[.one (.v (.int .i64 x)),.one (.v (.int .i64 a)),.one (.v (.int .i64 b))]=>some (fun _=>True,[.k (F.inR x a b)])
 |_,_=>none
theorem aj :aR (ct F0):=by
 intro f ds pre res h hp;unfold ct at h;split at h<;>cases h
 exact aU hp;exact ba hp
abbrev B :cD:=tb aj
end C1
theorem sq {b i:Int}(hp:True):ao 183 [.j b,.j i] [.k (slB b i)]:=by
 refine cb C1.B Tryz.func183 ?_
 exact LJ
theorem sQ {b i:Int}(hp:True):ao 216 [.j b,.j i] [.k (slB b i)]:=by
 refine cb C1.B Tryz.func216 ?_
 exact LJ
namespace C2
structure aO where
 slB:Int->Int->Bool
abbrev F0 :aO:=⟨slB⟩
def ct (F:aO):CT:=fun f ds=>match f,ds with
 |183,[.one (.v (.int .i64 b)),.one (.v (.int .i64 i))]=>some (fun _=>True,[.k (F.slB b i)])
 |216,[.one (.v (.int .i64 b)),.one (.v (.int .i64 i))]=>some (fun _=>True,[.k (F.slB b i)])
 |_,_=>none
theorem aj :aR (ct F0):=by
 intro f ds pre res h hp;unfold ct at h;split at h<;>cases h
 exact sq hp;exact sQ hp
abbrev B :cD:=tb aj
end C2
theorem iM {b i:Int}(hp:True):ao 111 [.j b,.j i] [.k (hsB b i)]:=by
 refine cb C2.B Tryz.func111 ?_
 exact LD
theorem qz {b i:Int}(hp:True):ao 176 [.j b,.j i] [.k (hsB b i)]:=by
 refine cb C2.B Tryz.func176 ?_
 exact LD
end Go.V