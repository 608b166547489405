/- Contracts. -/
import Derived.Test.YtcodmgmliopheaaGreatHeapBt
set_option linter.all false
namespace Go.V
open Go Go.Proofs
set_option maxRecDepth 1000000
set_option maxHeartbeats 8000000
namespace C1
structure aQ where
 inR:Int->Int->Int->Bool
abbrev F0 :aQ:=⟨inR⟩
def ct (F:aQ):CT:=fun f ds=>match f,ds with
 |91,[.one (.v (.int .i64 x)),.one (.v (.int .i64 a)),.one (.v (.int .i64 b))]=>some (fun _=>True,[.k (F.inR x a b)])
 |89,[.one (.v (.int .i64 x)),.one (.v (.int .i64 a)),.one (.v (.int .i64 b))]=>some (fun _=>True,[.k (F.inR x a b)])
 |_,_=>none
theorem aj :aR (ct F0):=by
 intro f ds pre res h hp;unfold ct at h;split at h<;>cases h
 exact bc hp;exact be hp
abbrev B :cy:=tb aj
end C1
theorem wv {b i:Int}(hp:True):aw 393 [.j b,.j i] [.k (slB b i)]:=by
 refine cb C1.B Tryz.func393 ?_
 exact Rn
theorem wU {b i:Int}(hp:True):aw 417 [.j b,.j i] [.k (slB b i)]:=by
 refine cb C1.B Tryz.func417 ?_
 exact Rn
namespace C2
structure aQ where
 slB:Int->Int->Bool
abbrev F0 :aQ:=⟨slB⟩
def ct (F:aQ):CT:=fun f ds=>match f,ds with
 |393,[.one (.v (.int .i64 b)),.one (.v (.int .i64 i))]=>some (fun _=>True,[.k (F.slB b i)])
 |417,[.one (.v (.int .i64 b)),.one (.v (.int .i64 i))]=>some (fun _=>True,[.k (F.slB b i)])
 |_,_=>none
theorem aj :aR (ct F0):=by
 intro f ds pre res h hp;unfold ct at h;split at h<;>cases h
 exact wv hp;exact wU hp
abbrev B :cy:=tb aj
end C2
theorem ki {b i:Int}(hp:True):aw 311 [.j b,.j i] [.k (hsB b i)]:=by
 refine cb C2.B Tryz.func311 ?_
 exact Rh
theorem tV {b i:Int}(hp:True):aw 371 [.j b,.j i] [.k (hsB b i)]:=by
 refine cb C2.B Tryz.func371 ?_
 exact Rh
end Go.V