/- Contracts. -/
import Derived.Test.YtcodmgmliopheaaGreatXHeapAt
set_option linter.all false
open Go
open And renaming intro->By
namespace Go.V
open Go Go.Proofs
set_option maxRecDepth 1000000
set_option maxHeartbeats 8000000
def cK :EC:=fun F=>fun
 |[.agg [.s 2 es],.one (.v (.int .i64 f))]=>some (fun _=>Rw [tI,tI] es/\es.length<=1099511627776,[.one (.s 1 (F.pagesOn es f))])
 |_=>none
theorem lO :ec 312 cK:=by
 intro _ _ _ h hp;dsimp only[cK,F0]at h;split at h<;>cases h
 rename_i es f;obtain⟨hw,hlen⟩:=hp;refine cb nB Tryz.func312 ?_
 intro O r F hO hr hF;cbv
 repeat' first|apply By|(apply bD<;>intro hb<;>cbv)|(refine⟨[1,5,10,11,12],[5],Int×aa,fun s_=>match s_ with|(i,out)=>[.reg 12 (.j i),.reg 5 (.one (.vw 5 0 0 0 (O.ln out))),.leaf 5 0 ⟨0,0,none,.own (.s 1 out)⟩],fun s_=>match s_ with|(i,out)=>0<=i/\i<=(es.length:Int)/\out=ym es f i.toNat,fun s_=>match s_ with|(i,out)=>es.length-i.toNat,⟨(0,[]),?_,?_⟩,?_⟩;rotate_left;(focus (cbv;done));intro s_ hi;obtain⟨i,out⟩:=s_;replace hi:0<=i/\i<=(es.length:Int)/\out=ym es f i.toNat:=hi;obtain⟨i0,i1,i2⟩:=hi;cbv)|(refine ab (O.ar .add .i64 i 1,O.cat out (O.sub [[.i i]] 0 (O.ln [[.i i]]))) ?_ ?_ ?_;focus (cbv;done))|(refine ab (O.ar .add .i64 i 1,out) ?_ ?_ ?_;focus (cbv;done))
 all_goals exact aaN
theorem lW :ec 368 cK:=by
 intro _ _ _ h hp;dsimp only[cK,F0]at h;split at h<;>cases h
 rename_i es f;obtain⟨hw,hlen⟩:=hp;refine cb nB Tryz.func368 ?_
 intro O r F hO hr hF;cbv
 repeat' first|apply By|(apply bD<;>intro hb<;>cbv)|(refine⟨[1,2,5,6],[2,5],Int×aa,fun s_=>match s_ with|(i,out)=>[.reg 6 (.j i),.reg 5 (.one (.vw 5 0 0 0 (O.ln out))),.leaf 5 0 ⟨0,0,none,.own (.s 1 out)⟩],fun s_=>match s_ with|(i,out)=>0<=i/\i<=(es.length:Int)/\out=ym es f i.toNat,fun s_=>match s_ with|(i,out)=>es.length-i.toNat,⟨(0,[]),?_,?_⟩,?_⟩;rotate_left;(focus (cbv;done));intro s_ hi;obtain⟨i,out⟩:=s_;replace hi:0<=i/\i<=(es.length:Int)/\out=ym es f i.toNat:=hi;obtain⟨i0,i1,i2⟩:=hi;cbv)|(refine ab (O.ar .add .i64 i 1,O.cat out (O.sub [[.i i]] 0 (O.ln [[.i i]]))) ?_ ?_ ?_;focus (cbv;done))|(refine ab (O.ar .add .i64 i 1,out) ?_ ?_ ?_;focus (cbv;done))
 all_goals exact aaN
abbrev B1 :cW:=eF (fun F f=>match f with|91=>aj F|89=>aj F|_=>fun _=>none) (by
 intro f;dsimp only;split;exact bu;exact bC;exact cX)
def cH :EC:=fun F=>fun
 |[.agg [.s 2 es],.one (.v (.int .i64 p))]=>some (fun _=>Rw [tI,tI] es,[.agg [.i (F.peM es p),.i (F.peF es p)]])
 |_=>none
theorem jr :ec 112 cH:=by
 intro _ _ _ h hp;dsimp only[cH,F0]at h;split at h<;>cases h
 rename_i es p;have hm:=hp.1;unfold maxLen at hm;have hsb:bR .sub .i64 (es.length:Int) 1=es.length-1:=dD (by omega);refine cb B1 Tryz.func112 ?_
 exact aaO
theorem oN :ec 234 cH:=by
 intro _ _ _ h hp;dsimp only[cH,F0]at h;split at h<;>cases h
 rename_i es p;have hm:=hp.1;unfold maxLen at hm;have hsb:bR .sub .i64 (es.length:Int) 1=es.length-1:=dD (by omega);refine cb B1 Tryz.func234 ?_
 exact aaO
abbrev B2 :cW:=eF (fun F f=>match f with|112=>cH F|312=>cK F|234=>cH F|368=>cK F|_=>fun _=>none) (by
 intro f;dsimp only;split;exact jr;exact lO;exact oN;exact lW;exact cX)
def cY :EC:=fun F=>fun
 |[.agg hl_,.one (.v (.int .i64 pg))]=>hL hl_ fun a0 a1 a2 a3 a4 a5 a6 a7 a8 a9 aA aB aC aD aE aF aG aH aI aJ aK aL aM aN=>(fun _=>Rw [tI,tI] a2/\a2.length<=1099511627776,[.one (.s 1 (F.fpg a2 pg))])
 |_=>none
theorem tj :ec 206 cY:=by
 intro _ _ _ h hp;dsimp only[cY,F0,hL]at h;split at h;rotate_left;cases h;split at h<;>cases h
 rename_i pg _ a0 a1 a2 a3 a4 a5 a6 a7 a8 a9 aA aB aC aD aE aF aG aH aI aJ aK aL aM aN;obtain⟨hw,hn⟩:=hp;refine cb B2 Tryz.func206 ?_
 exact aaW
theorem nz :ec 268 cY:=by
 intro _ _ _ h hp;dsimp only[cY,F0,hL]at h;split at h;rotate_left;cases h;split at h<;>cases h
 rename_i pg _ a0 a1 a2 a3 a4 a5 a6 a7 a8 a9 aA aB aC aD aE aF aG aH aI aJ aK aL aM aN;obtain⟨hw,hn⟩:=hp;refine cb B2 Tryz.func268 ?_
 exact aaW
end Go.V