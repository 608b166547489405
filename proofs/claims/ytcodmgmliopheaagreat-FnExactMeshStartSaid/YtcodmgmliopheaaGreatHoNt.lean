/- Contracts. -/
import Derived.Test.YtcodmgmliopheaaGreatOfCt
set_option linter.all false
namespace Go.V
open Go Go.Proofs
set_option maxRecDepth 1000000
set_option maxHeartbeats 8000000
namespace Hn0
structure aQ where
 inR:Int->Int->Int->Bool
abbrev F0 :aQ:=⟨inR⟩
def ct (F:aQ):CT:=fun f ds=>match f,ds with
 |175,[.one (.v (.int .i64 c))]=>some (fun _=>True,[.k (F.inR c 0 1073741823)])
 |91,[.one (.v (.int .i64 x)),.one (.v (.int .i64 a)),.one (.v (.int .i64 b))]=>some (fun _=>True,[.k (F.inR x a b)])
 |89,[.one (.v (.int .i64 x)),.one (.v (.int .i64 a)),.one (.v (.int .i64 b))]=>some (fun _=>True,[.k (F.inR x a b)])
 |_,_=>none
theorem ah :aR (ct F0):=by
 intro f ds pre res h hp;unfold ct at h;split at h<;>cases h
 exact eb hp;exact aU hp;exact bc hp
abbrev B :cq:=tb ah
end Hn0
theorem qn {s:Int}(hp:True):ap 394 [.j s] [.j (nxS s)]:=by
 refine cb Hn0.B Tryz.func394 ?_
 exact SU
theorem rz {s:Int}(hp:True):ap 423 [.j s] [.j (nxS s)]:=by
 refine cb Hn0.B Tryz.func423 ?_
 exact SU
namespace Hn1
structure aQ where
 inR:Int->Int->Int->Bool
 nxS:Int->Int
abbrev F0 :aQ:=⟨inR,nxS⟩
def ct (F:aQ):CT:=fun f ds=>match f,ds with
 |175,[.one (.v (.int .i64 c))]=>some (fun _=>True,[.k (F.inR c 0 1073741823)])
 |91,[.one (.v (.int .i64 x)),.one (.v (.int .i64 a)),.one (.v (.int .i64 b))]=>some (fun _=>True,[.k (F.inR x a b)])
 |394,[.one (.v (.int .i64 s))]=>some (fun _=>True,[.j (F.nxS s)])
 |89,[.one (.v (.int .i64 x)),.one (.v (.int .i64 a)),.one (.v (.int .i64 b))]=>some (fun _=>True,[.k (F.inR x a b)])
 |423,[.one (.v (.int .i64 s))]=>some (fun _=>True,[.j (F.nxS s)])
 |_,_=>none
theorem ah :aR (ct F0):=by
 intro f ds pre res h hp;unfold ct at h;split at h<;>cases h
 exact eb hp;exact aU hp;exact qn hp;exact bc hp;exact rz hp
abbrev B :cq:=tb ah
end Hn1
theorem vO {s n:Int}(hp:True):ap 313 [.j s,.j n] [.j (cuI s n),.j (cuS s n)]:=by
 refine cb Hn1.B Tryz.func313 ?_
 exact SK
theorem wm {s n:Int}(hp:True):ap 392 [.j s,.j n] [.j (cuI s n),.j (cuS s n)]:=by
 refine cb Hn1.B Tryz.func392 ?_
 exact SK
namespace Hn2
structure aQ where
 inR:Int->Int->Int->Bool
 cuI:Int->Int->Int
 cuS:Int->Int->Int
abbrev F0 :aQ:=⟨inR,cuI,cuS⟩
def ct (F:aQ):CT:=fun f ds=>match f,ds with
 |175,[.one (.v (.int .i64 c))]=>some (fun _=>True,[.k (F.inR c 0 1073741823)])
 |91,[.one (.v (.int .i64 x)),.one (.v (.int .i64 a)),.one (.v (.int .i64 b))]=>some (fun _=>True,[.k (F.inR x a b)])
 |313,[.one (.v (.int .i64 s)),.one (.v (.int .i64 n))]=>some (fun _=>True,[.j (F.cuI s n),.j (F.cuS s n)])
 |89,[.one (.v (.int .i64 x)),.one (.v (.int .i64 a)),.one (.v (.int .i64 b))]=>some (fun _=>True,[.k (F.inR x a b)])
 |392,[.one (.v (.int .i64 s)),.one (.v (.int .i64 n))]=>some (fun _=>True,[.j (F.cuI s n),.j (F.cuS s n)])
 |_,_=>none
theorem ah :aR (ct F0):=by
 intro f ds pre res h hp;unfold ct at h;split at h<;>cases h
 exact eb hp;exact aU hp;exact vO hp;exact bc hp;exact wm hp
abbrev B :cq:=tb ah
end Hn2
theorem qx {s n:Int}(hp:True):ap 207 [.j s,.j n] [.one (.s 1 (shuL s n)),.j (shuS s n)]:=by
 refine cb Hn2.B Tryz.func207 ?_
 exact V8
theorem rE {s n:Int}(hp:True):ap 309 [.j s,.j n] [.one (.s 1 (shuL s n)),.j (shuS s n)]:=by
 refine cb Hn2.B Tryz.func309 ?_
 exact V8
end Go.V