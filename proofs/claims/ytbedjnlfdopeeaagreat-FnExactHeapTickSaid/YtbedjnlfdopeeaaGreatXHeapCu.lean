/- Contracts. -/
import Derived.Test.YtbedjnlfdopeeaaGreatXHeapBu
set_option linter.all false
open Go
open IntKind renaming i64->Za
namespace Go.V
open Go Go.Proofs
set_option maxRecDepth 1000000
set_option maxHeartbeats 8000000
namespace C1
structure aP where
 inR:Int->Int->Int->Bool
abbrev F0:aP:=⟨inR⟩
def ct (F:aP):CT:=fun f ds=>match f,ds with
 |41,[.one (.v (.int Za x)),.one (.v (.int Za a)),.one (.v (.int Za b))]=>some (fun _=>True,[.k (F.inR x a b)])
 |28,[.one (.v (.int Za x)),.one (.v (.int Za a)),.one (.v (.int Za b))]=>some (fun _=>True,[.k (F.inR x a b)])
 |_,_=>none
theorem aj:aT (ct F0):=by
 intro f ds pre res h hp;unfold ct at h;split at h<;>cases h
 exact bc hp;exact be hp
abbrev B:cF:=tb aj
end C1
theorem lH {b i:Int}(hp:True):ap 321 [.j b,.j i] [.k (slB b i)]:=by
 refine cb C1.B Tryz.func321 ?_
 exact SN
theorem lL {b i:Int}(hp:True):ap 358 [.j b,.j i] [.k (slB b i)]:=by
 refine cb C1.B Tryz.func358 ?_
 exact SN
namespace C2
structure aP where
 slB:Int->Int->Bool
abbrev F0:aP:=⟨slB⟩
def ct (F:aP):CT:=fun f ds=>match f,ds with
 |321,[.one (.v (.int Za b)),.one (.v (.int Za i))]=>some (fun _=>True,[.k (F.slB b i)])
 |358,[.one (.v (.int Za b)),.one (.v (.int Za i))]=>some (fun _=>True,[.k (F.slB b i)])
 |_,_=>none
theorem aj:aT (ct F0):=by
 intro f ds pre res h hp;unfold ct at h;split at h<;>cases h
 exact lH hp;exact lL hp
abbrev B:cF:=tb aj
end C2
theorem eP {b i:Int}(hp:True):ap 242 [.j b,.j i] [.k (hsB b i)]:=by
 refine cb C2.B Tryz.func242 ?_
 exact SG
theorem gA {b i:Int}(hp:True):ap 305 [.j b,.j i] [.k (hsB b i)]:=by
 refine cb C2.B Tryz.func305 ?_
 exact SG
end Go.V