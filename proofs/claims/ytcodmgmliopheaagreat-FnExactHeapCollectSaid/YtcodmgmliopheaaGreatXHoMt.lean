/- Contracts. -/
import Derived.Test.YtcodmgmliopheaaGreatXHoBt
set_option linter.all false
namespace Go.V
open Go Go.Proofs
set_option maxRecDepth 1000000
set_option maxHeartbeats 8000000
abbrev Jb0 :cW:=eF (fun F f=>match f with|91=>aj F|170=>cD F|_=>fun _=>none) (by
 intro f;dsimp only;split;exact bu;exact jR;exact cX)
def eg :EC:=fun F=>fun
 |[.agg [.s 1 b,.s 1 x],.one (.v (.int .i64 f))]=>some (fun _=>Lm b x,[.k (F.htB b x f)])
 |_=>none
theorem vj :ec 165 eg:=by
 intro _ _ _ h hp;dsimp only[eg,F0]at h;split at h<;>cases h
 rename_i b x f;have hbl:=hp.bl;have hsb:bR .sub .i64 (b.length:Int) 1=b.length-1:=dD (by omega);refine cb Jb0 Tryz.func165 ?_
 exact aaR
abbrev Jb1 :cW:=eF (fun F f=>match f with|89=>aj F|139=>cD F|_=>fun _=>none) (by
 intro f;dsimp only;split;exact bC;exact jS;exact cX)
theorem Eb :ec 147 eg:=by
 intro _ _ _ h hp;dsimp only[eg,F0]at h;split at h<;>cases h
 rename_i b x f;have hbl:=hp.bl;have hsb:bR .sub .i64 (b.length:Int) 1=b.length-1:=dD (by omega);refine cb Jb1 Tryz.func147 ?_
 exact aaR
end Go.V