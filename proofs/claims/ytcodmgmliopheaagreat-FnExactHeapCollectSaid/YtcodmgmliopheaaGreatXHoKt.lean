/- Contracts. -/
import Derived.Test.YtcodmgmliopheaaGreatXW5
import Derived.Test.YtcodmgmliopheaaGreatXHoAt
import Derived.Test.YtcodmgmliopheaaGreatXLayMt
set_option linter.all false
open Go
open And renaming intro->By
namespace Go.V
open Go Go.Proofs
set_option maxRecDepth 1000000
set_option maxHeartbeats 8000000
abbrev Zk0 :cW:=eF (fun F f=>match f with|393=>d6 F|417=>d6 F|_=>fun _=>none) (by
 intro f;dsimp only;split;exact sd;exact sn;exact cX)
def dA :EC:=fun F=>fun
 |[.one (.v (.int .i64 b)),.one (.v (.int .i64 i))]=>some (fun _=>True,[.j (F.woN b i)])
 |_=>none
theorem sy :ec 325 dA:=by
 intro _ _ _ h hp;dsimp only[dA,F0]at h;split at h<;>cases h
 rename_i b i;refine cb Zk0 Tryz.func325 ?_
 exact aaH
theorem sH :ec 396 dA:=by
 intro _ _ _ h hp;dsimp only[dA,F0]at h;split at h<;>cases h
 rename_i b i;refine cb Zk0 Tryz.func396 ?_
 exact aaH
abbrev Zk1 :cW:=eF (fun F f=>match f with|287=>bY F|265=>bY F|311=>cB F|371=>cB F|325=>dA F|396=>dA F|_=>fun _=>none) (by
 intro f;dsimp only;split;exact gZ;exact hD;exact iG;exact lV;exact sy;exact sH;exact cX)
def eP :EC:=fun F=>fun
 |[.agg [.v (.int .i64 p),.v (.int .i64 k),.v (.int .i64 b)],.one (.v (.int .i64 s))]=>some (fun _=>True,[.agg [.i p,.i k,.i (F.snN p k b s)],.k (F.snB p k b s)])
 |_=>none
theorem xm :ec 217 eP:=by
 intro _ _ _ h hp;dsimp only[eP,F0]at h;split at h<;>cases h
 rename_i p k b s;refine cb Zk1 Tryz.func217 ?_
 exact aaK
theorem ye :ec 319 eP:=by
 intro _ _ _ h hp;dsimp only[eP,F0]at h;split at h<;>cases h
 rename_i p k b s;refine cb Zk1 Tryz.func319 ?_
 exact aaK
def Tryz.laysQ_ren :Go.Shelf.Ren:=⟨fun|41=>215|n=>n,fun|22=>68|23=>150|4=>4|n=>n,fun|n=>n⟩
theorem Tryz.laysQ :SlLaysE0.n41 Tryz.prog Tryz.laysQ_ren:=⟨by kernel_rfl,⟨Tryz.f215.name,by decide,Tryz.func215.trans (congrArg some (by kernel_rfl))⟩,Tryz.underlying4,Tryz.isAgg4,Tryz.sizeOf4,Tryz.zeroValue4,Tryz.underlying68,Tryz.isAgg68,Tryz.sizeOf68,Tryz.zeroValue68⟩
def bg :EC:=fun F=>fun
 |[.one (.s 3 es)]=>some (fun _=>Rw [tI,tI,tI] es/\es.length<=1099511627776,[.one (.s 3 es)])
 |_=>none
theorem cy :ec 215 bg:=by
 intro _ _ _ h hp;dsimp only[bg,F0]at h;split at h<;>cases h
 rename_i es;obtain⟨hw,hl⟩:=hp;obtain⟨i0,hi,hz0,hz1,hz2⟩:=info_parts (show(Tryz.prog.info? 150).map (fun i=>(i.zero,i.size,i.bytes))=some (some (.agg #[.int .i64 0,.int .i64 0,.int .i64 0]),3,24)from by kernel_rfl);exact HJ (t:=150) 3 24 (by decide) (AnyE.slices_Clone_nil Tryz.laysQ) (FV Tryz.laysQ i0 _ 3 24 hi hz0 hz1 hz2 rfl (by decide) Tryz.sizeOf150) (AnyE.slices_Clone Tryz.laysQ i0 _ 3 24 hi hz0 hz1 hz2 rfl (by decide) Tryz.sizeOf150) es (aac (hw.scal rfl)) (by omega)
abbrev Zk2 :cW:=eF (fun F f=>match f with|163=>dp F|171=>d5 F|91=>aj F|215=>bg F|132=>dp F|140=>d5 F|89=>aj F|_=>fun _=>none) (by
 intro f;dsimp only;split;exact pS;exact rZ;exact bu;exact cy;exact qH;exact sj;exact bC;exact cX)
def dQ :EC:=fun F=>fun
 |[.agg [.v (.int .i64 rm),.s 3 qs],.one (.v (.int .i64 now)),.one (.v (.int .i64 age))]=>some (fun _=>Rw [tI,tI,tI] qs/\qs.length<=1073741824,[.agg [.i rm,.s 3 (F.qeL rm qs now age)],.one (.s 3 (F.qeR rm qs now age))])
 |_=>none
theorem tp :ec 92 dQ:=by
 intro _ _ _ h hp;dsimp only[dQ,F0]at h;split at h<;>cases h
 rename_i rm qs now age;obtain⟨hw,hl⟩:=hp;have hs:=hw.scal rfl;refine cb Zk2 Tryz.func92 ?_
 intro O r F hO hr hF;cbv
 repeat' first|apply By|(apply bD<;>intro hb<;>cbv)|(refine⟨[1,2,3,6,8,9],[3,6,8],Int,fun i=>[.reg 9 (.j i)],fun i=>0<=i/\i<=((qs.length:Nat):Int)/\QY qs (now-age) i,fun i=>(qs.length)-i.toNat,⟨0,?_,?_⟩,?_⟩;rotate_left;(focus (cbv;done));intro i hi;replace hi:0<=i/\i<=((qs.length:Nat):Int)/\QY qs (now-age) i:=hi;obtain⟨i0,i1,i2⟩:=hi;cbv)|(refine ab (O.ar .add .i64 i 1) ?_ ?_ ?_;focus (cbv;done))
 all_goals exact aav
theorem tQ :ec 213 dQ:=by
 intro _ _ _ h hp;dsimp only[dQ,F0]at h;split at h<;>cases h
 rename_i rm qs now age;obtain⟨hw,hl⟩:=hp;have hs:=hw.scal rfl;refine cb Zk2 Tryz.func213 ?_
 intro O r F hO hr hF;cbv
 repeat' first|apply By|(apply bD<;>intro hb<;>cbv)|(refine⟨[1,2,3,6,8],[3,6],Int,fun i=>[.reg 8 (.j i)],fun i=>0<=i/\i<=((qs.length:Nat):Int)/\QY qs (now-age) i,fun i=>(qs.length)-i.toNat,⟨0,?_,?_⟩,?_⟩;rotate_left;(focus (cbv;done));intro i hi;replace hi:0<=i/\i<=((qs.length:Nat):Int)/\QY qs (now-age) i:=hi;obtain⟨i0,i1,i2⟩:=hi;cbv)|(refine ab (O.ar .add .i64 i 1) ?_ ?_ ?_;focus (cbv;done))
 all_goals exact aav
end Go.V