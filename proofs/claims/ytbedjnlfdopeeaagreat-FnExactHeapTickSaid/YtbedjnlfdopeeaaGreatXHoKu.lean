/- Contracts. -/
import Derived.Test.YtbedjnlfdopeeaaGreatXW5
import Derived.Test.YtbedjnlfdopeeaaGreatXHoAu
import Derived.Test.YtbedjnlfdopeeaaGreatXLayMu
set_option linter.all false
open Go
open And renaming intro->Zb
open IntKind renaming i64->Za
namespace Go.V
open Go Go.Proofs
set_option maxRecDepth 1000000
set_option maxHeartbeats 8000000
namespace Zk0
structure aP where
 slB:Int->Int->Bool
abbrev F0:aP:=⟨slB⟩
def ct (F:aP):CT:=fun f ds=>match f,ds with
 |321,[.one (.v (.int Za b)),.one (.v (.int Za i))]=>some (fun _=>True,[.k (F.slB b i)])
 |358,[.one (.v (.int Za b)),.one (.v (.int Za i))]=>some (fun _=>True,[.k (F.slB b i)])
 |_,_=>none
theorem aj:aT (ct F0):=by
 intro f ds pre res h hp;unfold ct at h;split at h<;>cases h
 exact lH hp;exact lL hp
abbrev B:cF:=tb aj
end Zk0
theorem lR {b i:Int}(hp:True):ap 245 [.j b,.j i] [.j (woN b i)]:=by
 refine cb Zk0.B Tryz.func245 ?_
 exact Sw
theorem lX {b i:Int}(hp:True):ap 306 [.j b,.j i] [.j (woN b i)]:=by
 refine cb Zk0.B Tryz.func306 ?_
 exact Sw
namespace Zk1
structure aP where
 spOk:Int->Int->Int->Bool
 hsB:Int->Int->Bool
 woN:Int->Int->Int
abbrev F0:aP:=⟨spOk,hsB,woN⟩
def ct (F:aP):CT:=fun f ds=>match f,ds with
 |227,[.agg [.v (.int Za p),.v (.int Za k),.v (.int Za b)]]=>some (fun _=>True,[.k (F.spOk p k b)])
 |259,[.agg [.v (.int Za p),.v (.int Za k),.v (.int Za b)]]=>some (fun _=>True,[.k (F.spOk p k b)])
 |242,[.one (.v (.int Za b)),.one (.v (.int Za i))]=>some (fun _=>True,[.k (F.hsB b i)])
 |305,[.one (.v (.int Za b)),.one (.v (.int Za i))]=>some (fun _=>True,[.k (F.hsB b i)])
 |245,[.one (.v (.int Za b)),.one (.v (.int Za i))]=>some (fun _=>True,[.j (F.woN b i)])
 |306,[.one (.v (.int Za b)),.one (.v (.int Za i))]=>some (fun _=>True,[.j (F.woN b i)])
 |_,_=>none
theorem aj:aT (ct F0):=by
 intro f ds pre res h hp;unfold ct at h;split at h<;>cases h
 exact ew hp;exact ez hp;exact eP hp;exact gA hp;exact lR hp;exact lX hp
abbrev B:cF:=tb aj
end Zk1
theorem qn {p k b s:Int}(hp:True):ap 138 [.agg [.i p,.i k,.i b],.j s] [.agg [.i p,.i k,.i (snN p k b s)],.k (snB p k b s)]:=by
 refine cb Zk1.B Tryz.func138 ?_
 exact SB
theorem rD {p k b s:Int}(hp:True):ap 214 [.agg [.i p,.i k,.i b],.j s] [.agg [.i p,.i k,.i (snN p k b s)],.k (snB p k b s)]:=by
 refine cb Zk1.B Tryz.func214 ?_
 exact SB
def Tryz.laysQ_ren:Go.Shelf.Ren:=⟨fun|41=>136|n=>n,fun|22=>68|23=>113|4=>4|n=>n,fun|n=>n⟩
theorem Tryz.laysQ:SlLaysE0.n41 Tryz.prog Tryz.laysQ_ren:=⟨by kernel_rfl,⟨Tryz.f136.name,by decide,Tryz.func136.trans (congrArg some (by kernel_rfl))⟩,Tryz.underlying4,Tryz.isAgg4,Tryz.sizeOf4,Tryz.zeroValue4,Tryz.underlying68,Tryz.isAgg68,Tryz.sizeOf68,Tryz.zeroValue68⟩
theorem bY {es:aa}(hp:Rw [tI,tI,tI] es/\es.length<=1099511627776):ap 136 [.one (.s 3 es)] [.one (.s 3 es)]:=by
 obtain⟨hw,hl⟩:=hp;obtain⟨i0,hi,hz0,hz1,hz2⟩:=info_parts (show(Tryz.prog.info? 113).map (fun i=>(i.zero,i.size,i.bytes))=some (some (.agg #[.int Za 0,.int Za 0,.int Za 0]),3,24)from by kernel_rfl);exact Br (t:=113) 3 24 (by decide) (AnyE.slices_Clone_nil Tryz.laysQ) (zU Tryz.laysQ i0 _ 3 24 hi hz0 hz1 hz2 rfl (by decide) Tryz.sizeOf113) (AnyE.slices_Clone Tryz.laysQ i0 _ 3 24 hi hz0 hz1 hz2 rfl (by decide) Tryz.sizeOf113) es (RR (hw.scal rfl)) (by omega)
namespace Zk2
structure aP where
 quarOk:Int->aa->Bool
 inR:Int->Int->Int->Bool
abbrev F0:aP:=⟨quarOk,inR⟩
def ct (F:aP):CT:=fun f ds=>match f,ds with
 |122,[.agg [.v (.int Za r),.s 3 qs]]=>some (fun _=>Rw [tI,tI,tI] qs/\qs.length<=1099511627776,[.agg [.i r,.s 3 qs]])
 |129,[.agg [.v (.int Za rm),.s 3 qs]]=>some (fun _=>Rw [tI,tI,tI] qs/\qs.length<=1073741824,[.k (F.quarOk rm qs)])
 |41,[.one (.v (.int Za x)),.one (.v (.int Za a)),.one (.v (.int Za b))]=>some (fun _=>True,[.k (F.inR x a b)])
 |136,[.one (.s 3 es)]=>some (fun _=>Rw [tI,tI,tI] es/\es.length<=1099511627776,[.one (.s 3 es)])
 |103,[.agg [.v (.int Za r),.s 3 qs]]=>some (fun _=>Rw [tI,tI,tI] qs/\qs.length<=1099511627776,[.agg [.i r,.s 3 qs]])
 |170,[.agg [.v (.int Za rm),.s 3 qs]]=>some (fun _=>Rw [tI,tI,tI] qs/\qs.length<=1073741824,[.k (F.quarOk rm qs)])
 |28,[.one (.v (.int Za x)),.one (.v (.int Za a)),.one (.v (.int Za b))]=>some (fun _=>True,[.k (F.inR x a b)])
 |_,_=>none
theorem aj:aT (ct F0):=by
 intro f ds pre res h hp;unfold ct at h;split at h<;>cases h
 exact jH hp;exact lE hp;exact bc hp;exact bY hp;exact j8 hp;exact lJ hp;exact be hp
abbrev B:cF:=tb aj
end Zk2
theorem mE {rm:Int}{qs:aa}{now age:Int}(hp:Rw [tI,tI,tI] qs/\qs.length<=1073741824):ap 42 [.agg [.i rm,.s 3 qs],.j now,.j age] [.agg [.i rm,.s 3 (qeL rm qs now age)],.one (.s 3 (qeR rm qs now age))]:=by
 obtain⟨hw,hl⟩:=hp;have hs:=hw.scal rfl;refine cb Zk2.B Tryz.func42 ?_
 intro O r F hO hr hF;cbv
 repeat' first|apply Zb|(apply bu<;>intro hb<;>cbv)|(refine⟨[1,2,3,6,8,9],[3,6,8],Int,fun i=>[.reg 9 (.j i)],fun i=>0<=i/\i<=((qs.length:Nat):Int)/\JK qs (now-age) i,fun i=>(qs.length)-i.toNat,⟨0,?_,?_⟩,?_⟩;rotate_left;(focus (cbv;done));intro i hi;replace hi:0<=i/\i<=((qs.length:Nat):Int)/\JK qs (now-age) i:=hi;obtain⟨i0,i1,i2⟩:=hi;cbv)|(refine ab (O.ar .add Za i 1) ?_ ?_ ?_;focus (cbv;done))
 all_goals exact VK
theorem mZ {rm:Int}{qs:aa}{now age:Int}(hp:Rw [tI,tI,tI] qs/\qs.length<=1073741824):ap 105 [.agg [.i rm,.s 3 qs],.j now,.j age] [.agg [.i rm,.s 3 (qeL rm qs now age)],.one (.s 3 (qeR rm qs now age))]:=by
 obtain⟨hw,hl⟩:=hp;have hs:=hw.scal rfl;refine cb Zk2.B Tryz.func105 ?_
 intro O r F hO hr hF;cbv
 repeat' first|apply Zb|(apply bu<;>intro hb<;>cbv)|(refine⟨[1,2,3,6,8],[3,6],Int,fun i=>[.reg 8 (.j i)],fun i=>0<=i/\i<=((qs.length:Nat):Int)/\JK qs (now-age) i,fun i=>(qs.length)-i.toNat,⟨0,?_,?_⟩,?_⟩;rotate_left;(focus (cbv;done));intro i hi;replace hi:0<=i/\i<=((qs.length:Nat):Int)/\JK qs (now-age) i:=hi;obtain⟨i0,i1,i2⟩:=hi;cbv)|(refine ab (O.ar .add Za i 1) ?_ ?_ ?_;focus (cbv;done))
 all_goals exact VK
end Go.V