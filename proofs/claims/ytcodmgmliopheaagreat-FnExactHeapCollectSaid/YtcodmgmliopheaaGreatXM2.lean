/- Contracts. -/
import Derived.Test.YtcodmgmliopheaaGreatXLayQt
set_option linter.all false
namespace Go.V
open Go Go.Proofs
set_option maxRecDepth 1000000
set_option maxHeartbeats 8000000
abbrev Oc0 :cW:=eF (fun F f=>match f with|287=>bY F|265=>bY F|114=>bF F|236=>bF F|311=>cB F|371=>cB F|_=>fun _=>none) (by
 intro f;dsimp only;split;exact gZ;exact hD;exact du;exact fo;exact iG;exact lV;exact cX)
def mf :EC:=fun F=>fun
 |[.agg hl_]=>hL hl_ fun a0 a1 a2 a3 a4 a5 a6 a7 a8 a9 aA aB aC aD aE aF aG aH aI aJ aK aL aM aN=>(fun _=>a2.length<=1073741824,[.j (F.zlI a2)])
 |_=>none
theorem ze :ec 244 mf:=by
 intro _ _ _ h hp;dsimp only[mf,F0,hL]at h;split at h;rotate_left;cases h;split at h<;>cases h
 rename_i a0 a1 a2 a3 a4 a5 a6 a7 a8 a9 aA aB aC aD aE aF aG aH aI aJ aK aL aM aN;refine cb Oc0 Tryz.func244 ?_
 exact Wa
end Go.V