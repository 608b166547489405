/- Contracts. -/
import Derived.Test.YtcodmgmliopheaaGreatXHeapBt
set_option linter.all false
namespace Go.V
open Go Go.Proofs
set_option maxRecDepth 1000000
set_option maxHeartbeats 8000000
abbrev C1 :cW:=eF (fun F f=>match f with|91=>aj F|89=>aj F|_=>fun _=>none) (by
 intro f;dsimp only;split;exact bu;exact bC;exact cX)
def d6 :EC:=fun F=>fun
 |[.one (.v (.int .i64 b)),.one (.v (.int .i64 i))]=>some (fun _=>True,[.k (F.slB b i)])
 |_=>none
theorem sd :ec 393 d6:=by
 intro _ _ _ h hp;dsimp only[d6,F0]at h;split at h<;>cases h
 rename_i b i;refine cb C1 Tryz.func393 ?_
 exact aaX
theorem sn :ec 417 d6:=by
 intro _ _ _ h hp;dsimp only[d6,F0]at h;split at h<;>cases h
 rename_i b i;refine cb C1 Tryz.func417 ?_
 exact aaX
abbrev C2 :cW:=eF (fun F f=>match f with|393=>d6 F|417=>d6 F|_=>fun _=>none) (by
 intro f;dsimp only;split;exact sd;exact sn;exact cX)
def cB :EC:=fun F=>fun
 |[.one (.v (.int .i64 b)),.one (.v (.int .i64 i))]=>some (fun _=>True,[.k (F.hsB b i)])
 |_=>none
theorem iG :ec 311 cB:=by
 intro _ _ _ h hp;dsimp only[cB,F0]at h;split at h<;>cases h
 rename_i b i;refine cb C2 Tryz.func311 ?_
 exact aaQ
theorem lV :ec 371 cB:=by
 intro _ _ _ h hp;dsimp only[cB,F0]at h;split at h<;>cases h
 rename_i b i;refine cb C2 Tryz.func371 ?_
 exact aaQ
end Go.V