/- Contracts. -/
import Derived.Test.YtbedjnlfdopeeaaGreatM4
set_option linter.all false
open Go
open IntKind renaming i64->Za
namespace Go.V
open Go Go.Proofs
set_option maxRecDepth 1000000
set_option maxHeartbeats 8000000
abbrev Oc0:da:=ez (fun F f=>match f with|227=>bZ F|259=>bZ F|84=>bA F|183=>bA F|242=>cD F|305=>cD F|_=>fun _=>none) (by
 intro f;dsimp only;split;exact hE;exact hH;exact cT;exact d9;exact iK;exact mg;exact de)
def mo:EC:=fun F=>fun
 |[.agg hl_]=>hL hl_ fun a0 a1 a2 a3 a4 a5 a6 a7 a8 a9 aA aB aC aD aE aF aG aH aI aJ aK aL aM aN=>(fun _=>a2.length<=1073741824,[.j (F.zlI a2)])
 |_=>none
theorem zg:ec 192 mo:=by
 intro _ _ _ h hp;dsimp only[mo,F0,hL]at h;split at h;rotate_left;cases h;split at h<;>cases h
 rename_i a0 a1 a2 a3 a4 a5 a6 a7 a8 a9 aA aB aC aD aE aF aG aH aI aJ aK aL aM aN;refine cb Oc0 Tryz.func192 ?_
 exact ach
abbrev Jb0:da:=ez (fun F f=>match f with|41=>aj F|128=>cG F|_=>fun _=>none) (by
 intro f;dsimp only;split;exact bB;exact jZ;exact de)
def eg:EC:=fun F=>fun
 |[.agg [.s 1 b,.s 1 x],.one (.v (.int Za f))]=>some (fun _=>K5 b x,[.k (F.htB b x f)])
 |_=>none
theorem uY:ec 194 eg:=by
 intro _ _ _ h hp;dsimp only[eg,F0]at h;split at h<;>cases h
 rename_i b x f;have hbl:=hp.bl;have hsb:bO .sub Za (b.length:Int) 1=b.length-1:=dG (by omega);refine cb Jb0 Tryz.func194 ?_
 exact ago
abbrev Jb1:da:=ez (fun F f=>match f with|28=>aj F|169=>cG F|_=>fun _=>none) (by
 intro f;dsimp only;split;exact bE;exact j3;exact de)
theorem D1:ec 277 eg:=by
 intro _ _ _ h hp;dsimp only[eg,F0]at h;split at h<;>cases h
 rename_i b x f;have hbl:=hp.bl;have hsb:bO .sub Za (b.length:Int) 1=b.length-1:=dG (by omega);refine cb Jb1 Tryz.func277 ?_
 exact ago
end Go.V