/- Contracts. -/
import Derived.Test.YtllcfbgmhgodhaaGreatHeapBr
set_option linter.all false
namespace Go.V
open Go Go.Proofs
set_option maxRecDepth 1000000
set_option maxHeartbeats 8000000
namespace C1
structure aQ where
 inR:Int->Int->Int->Bool
abbrev F0 :aQ:=⟨inR⟩
def ct (F:aQ):CT:=fun f ds=>match f,ds with
 |105,[.one (.v (.int .i64 x)),.one (.v (.int .i64 a)),.one (.v (.int .i64 b))]=>some (fun _=>True,[.k (F.inR x a b)])
 |103,[.one (.v (.int .i64 x)),.one (.v (.int .i64 a)),.one (.v (.int .i64 b))]=>some (fun _=>True,[.k (F.inR x a b)])
 |_,_=>none
theorem ai :aS (ct F0):=by
 intro f ds pre res h hp;unfold ct at h;split at h<;>cases h
 exact aZ hp;exact bg hp
abbrev B :cy:=tb ai
end C1
theorem wy {b i:Int}(hp:True):au 346 [.j b,.j i] [.k (slB b i)]:=by
 refine cb C1.B Tryz.func346 ?_
 exact SU
theorem wS {b i:Int}(hp:True):au 353 [.j b,.j i] [.k (slB b i)]:=by
 refine cb C1.B Tryz.func353 ?_
 exact SU
namespace C2
structure aQ where
 slB:Int->Int->Bool
abbrev F0 :aQ:=⟨slB⟩
def ct (F:aQ):CT:=fun f ds=>match f,ds with
 |346,[.one (.v (.int .i64 b)),.one (.v (.int .i64 i))]=>some (fun _=>True,[.k (F.slB b i)])
 |353,[.one (.v (.int .i64 b)),.one (.v (.int .i64 i))]=>some (fun _=>True,[.k (F.slB b i)])
 |_,_=>none
theorem ai :aS (ct F0):=by
 intro f ds pre res h hp;unfold ct at h;split at h<;>cases h
 exact wy hp;exact wS hp
abbrev B :cy:=tb ai
end C2
theorem gE {b i:Int}(hp:True):au 294 [.j b,.j i] [.k (hsB b i)]:=by
 refine cb C2.B Tryz.func294 ?_
 exact SL
theorem kB {b i:Int}(hp:True):au 323 [.j b,.j i] [.k (hsB b i)]:=by
 refine cb C2.B Tryz.func323 ?_
 exact SL
end Go.V