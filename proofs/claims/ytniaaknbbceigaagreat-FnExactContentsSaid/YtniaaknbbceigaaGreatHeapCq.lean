/- Contracts. -/
import Derived.Test.YtniaaknbbceigaaGreatHeapBq
set_option linter.all false
namespace Go.V
open Go Go.Proofs
set_option maxRecDepth 1000000
set_option maxHeartbeats 8000000
namespace C1
structure av where
 inR:Int->Int->Int->Bool
abbrev F0 :av:=⟨inR⟩
def ct (F:av):CT:=fun f ds=>match f,ds with
 |152,[.one (.v (.int .i64 x)),.one (.v (.int .i64 a)),.one (.v (.int .i64 b))]=>some (fun _=>True,[.k (F.inR x a b)])
 |126,[.one (.v (.int .i64 x)),.one (.v (.int .i64 a)),.one (.v (.int .i64 b))]=>some (fun _=>True,[.k (F.inR x a b)])
 |_,_=>none
theorem ah :aO (ct F0):=by
 intro f ds pre res h hp;unfold ct at h;split at h<;>cases h
 exact aV hp;exact bh hp
abbrev B :ce:=tb ah
end C1
theorem uU {b i:Int}(hp:True):ap 238 [.j b,.j i] [.k (slB b i)]:=by
 refine cb C1.B Tryz.func238 ?_
 exact Rm
theorem vo {b i:Int}(hp:True):ap 172 [.j b,.j i] [.k (slB b i)]:=by
 refine cb C1.B Tryz.func172 ?_
 exact Rm
namespace C2
structure av where
 slB:Int->Int->Bool
abbrev F0 :av:=⟨slB⟩
def ct (F:av):CT:=fun f ds=>match f,ds with
 |238,[.one (.v (.int .i64 b)),.one (.v (.int .i64 i))]=>some (fun _=>True,[.k (F.slB b i)])
 |172,[.one (.v (.int .i64 b)),.one (.v (.int .i64 i))]=>some (fun _=>True,[.k (F.slB b i)])
 |_,_=>none
theorem ah :aO (ct F0):=by
 intro f ds pre res h hp;unfold ct at h;split at h<;>cases h
 exact uU hp;exact vo hp
abbrev B :ce:=tb ah
end C2
theorem gg {b i:Int}(hp:True):ap 189 [.j b,.j i] [.k (hsB b i)]:=by
 refine cb C2.B Tryz.func189 ?_
 exact Rf
theorem gu {b i:Int}(hp:True):ap 75 [.j b,.j i] [.k (hsB b i)]:=by
 refine cb C2.B Tryz.func75 ?_
 exact Rf
end Go.V