/- Contracts. -/
import Derived.Test.YtbedjnlfdopeeaaGreatW5
import Derived.Test.YtbedjnlfdopeeaaGreatM4
set_option linter.all false
open Go
open IntKind renaming i64->Za
namespace Go.V
open Go Go.Proofs
set_option maxRecDepth 1000000
set_option maxHeartbeats 8000000
abbrev Zk0:da:=ez (fun F f=>match f with|321=>d7 F|358=>d7 F|_=>fun _=>none) (by
 intro f;dsimp only;split;exact sj;exact so;exact de)
def dC:EC:=fun F=>fun
 |[.one (.v (.int Za b)),.one (.v (.int Za i))]=>some (fun _=>True,[.j (F.woN b i)])
 |_=>none
theorem sD:ec 245 dC:=by
 intro _ _ _ h hp;dsimp only[dC,F0]at h;split at h<;>cases h
 rename_i b i;refine cb Zk0 Tryz.func245 ?_
 exact agc
theorem sJ:ec 306 dC:=by
 intro _ _ _ h hp;dsimp only[dC,F0]at h;split at h<;>cases h
 rename_i b i;refine cb Zk0 Tryz.func306 ?_
 exact agc
abbrev Zk1:da:=ez (fun F f=>match f with|227=>bZ F|259=>bZ F|242=>cD F|305=>cD F|245=>dC F|306=>dC F|_=>fun _=>none) (by
 intro f;dsimp only;split;exact hE;exact hH;exact iK;exact mg;exact sD;exact sJ;exact de)
def eR:EC:=fun F=>fun
 |[.agg [.v (.int Za p),.v (.int Za k),.v (.int Za b)],.one (.v (.int Za s))]=>some (fun _=>True,[.agg [.i p,.i k,.i (F.snN p k b s)],.k (F.snB p k b s)])
 |_=>none
theorem xc:ec 138 eR:=by
 intro _ _ _ h hp;dsimp only[eR,F0]at h;split at h<;>cases h
 rename_i p k b s;refine cb Zk1 Tryz.func138 ?_
 exact agh
theorem x9:ec 214 eR:=by
 intro _ _ _ h hp;dsimp only[eR,F0]at h;split at h<;>cases h
 rename_i p k b s;refine cb Zk1 Tryz.func214 ?_
 exact agh
def Tryz.laysQ_ren:Go.Shelf.Ren:=⟨fun|41=>136|n=>n,fun|22=>68|23=>113|4=>4|n=>n,fun|n=>n⟩
theorem Tryz.laysQ:SlLaysE0.n41 Tryz.prog Tryz.laysQ_ren:=⟨by kernel_rfl,⟨Tryz.f136.name,by decide,Tryz.func136.trans (congrArg some (by kernel_rfl))⟩,Tryz.underlying4,Tryz.isAgg4,Tryz.sizeOf4,Tryz.zeroValue4,Tryz.underlying68,Tryz.isAgg68,Tryz.sizeOf68,Tryz.zeroValue68⟩
def bg:EC:=fun F=>fun
 |[.one (.s 3 es)]=>some (fun _=>Rw [tI,tI,tI] es/\es.length<=1099511627776,[.one (.s 3 es)])
 |_=>none
theorem cA:ec 136 bg:=by
 intro _ _ _ h hp;dsimp only[bg,F0]at h;split at h<;>cases h
 rename_i es;obtain⟨hw,hl⟩:=hp;obtain⟨i0,hi,hz0,hz1,hz2⟩:=info_parts (show(Tryz.prog.info? 113).map (fun i=>(i.zero,i.size,i.bytes))=some (some (.agg #[.int Za 0,.int Za 0,.int Za 0]),3,24)from by kernel_rfl);exact Hy (t:=113) 3 24 (by decide) (AnyE.slices_Clone_nil Tryz.laysQ) (FK Tryz.laysQ i0 _ 3 24 hi hz0 hz1 hz2 rfl (by decide) Tryz.sizeOf113) (AnyE.slices_Clone Tryz.laysQ i0 _ 3 24 hi hz0 hz1 hz2 rfl (by decide) Tryz.sizeOf113) es (afH (hw.scal rfl)) (by omega)
end Go.V