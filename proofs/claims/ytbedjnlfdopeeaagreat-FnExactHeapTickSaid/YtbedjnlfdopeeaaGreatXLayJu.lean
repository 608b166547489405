/- Contracts. -/
import Derived.Test.YtbedjnlfdopeeaaGreatXLayIu
set_option linter.all false
open Go
open And renaming intro->Zb
open IntKind renaming i64->Za
namespace Go.V
open Go Go.Proofs
set_option maxRecDepth 1000000
set_option maxHeartbeats 8000000
namespace Lj1
structure aP where
 mailOk:aa->aa->Bool
abbrev F0:aP:=⟨mailOk⟩
def ct (F:aP):CT:=fun f ds=>match f,ds with
 |128,[.agg [.s 1 b,.s 1 x]]=>some (fun _=>zy b x,[.k (F.mailOk b x)])
 |169,[.agg [.s 1 b,.s 1 x]]=>some (fun _=>zy b x,[.k (F.mailOk b x)])
 |_,_=>none
theorem aj:aT (ct F0):=by
 intro f ds pre res h hp;unfold ct at h;split at h<;>cases h
 exact lD hp;exact lI hp
abbrev B:cF:=tb aj
end Lj1
theorem qf {b x:aa}(hp:zy b x):ap 236 [.agg [.s 1 b,.s 1 x]] [.one (.s 1 (ifL b x))]:=by
 have hbw:=hp.bw;have hxw:=hp.xw;have hbl:=hp.bl;have hxl:=hp.xl;refine cb Lj1.B Tryz.func236 ?_
 intro O r F hO hr hF;cbv
 repeat' first|apply Zb|(apply bu<;>intro hb<;>cbv)|(refine⟨[1,3,15,16,17],[1,3],Int×aa,fun s_=>match s_ with|(i,o)=>[.reg 17 (.j i),.reg 3 (.one (.vw 3 0 0 0 (O.ln o))),.leaf 3 0 ⟨0,0,none,.own (.s 1 o)⟩],fun s_=>match s_ with|(i,o)=>0<=i/\i<=(b.length:Int)/\JD b i o,fun s_=>match s_ with|(i,o)=>b.length-i.toNat,⟨(0,[]),?_,?_⟩,?_⟩;rotate_left;(focus (cbv;done));intro s_ hi;obtain⟨i,o⟩:=s_;replace hi:0<=i/\i<=(b.length:Int)/\JD b i o:=hi;obtain⟨i0,i1,i2⟩:=hi;cbv)|(refine⟨[1,3,15,16,17,21,22,23],[1,3],Int×aa,fun s_=>match s_ with|(k,o1)=>[.reg 23 (.j k),.reg 3 (.one (.vw 3 0 0 0 (O.ln o1))),.leaf 3 0 ⟨0,0,none,.own (.s 1 o1)⟩],fun s_=>match s_ with|(k,o1)=>0<=k/\k<=((aR b i 0).length:Int)/\JE b i k o1,fun s_=>match s_ with|(k,o1)=>(aR b i 0).length-k.toNat,⟨(0,o),?_,?_⟩,?_⟩;rotate_left;(focus (cbv;done));intro s_ hk;obtain⟨k,o1⟩:=s_;replace hk:0<=k/\k<=((aR b i 0).length:Int)/\JE b i k o1:=hk;obtain⟨k0,k1,k2⟩:=hk;cbv)|(refine⟨[3,35,36,37],[3],Int×aa,fun s_=>match s_ with|(j,o2)=>[.reg 37 (.j j),.reg 3 (.one (.vw 3 0 0 0 (O.ln o2))),.leaf 3 0 ⟨0,0,none,.own (.s 1 o2)⟩],fun s_=>match s_ with|(j,o2)=>0<=j/\j<=(x.length:Int)/\JF b x j o2,fun s_=>match s_ with|(j,o2)=>x.length-j.toNat,⟨(0,o),?_,?_⟩,?_⟩;rotate_left;(focus (cbv;done));intro s_ hj;obtain⟨j,o2⟩:=s_;replace hj:0<=j/\j<=(x.length:Int)/\JF b x j o2:=hj;obtain⟨j0,j1,j2⟩:=hj;cbv)|(refine ab (O.ar .add Za k 1,O.cat o1 (O.sub [[.i (O.gi (O.gs b i 0) k 1)]] 0 (O.ln [[.i (O.gi (O.gs b i 0) k 1)]]))) ?_ ?_ ?_;focus (cbv;done))|(refine ab (O.ar .add Za i 1,o1) ?_ ?_ ?_;focus (cbv;done))|(refine ab (O.ar .add Za j 1,O.cat o2 (O.gs x j 0)) ?_ ?_ ?_;focus (cbv;done))
 all_goals(subst hO hr hF;(try simp only[nc]at*);(try simp only[ak,SS,sa,az]at*);(try rw[cy (by omega) (by omega)]))
 all_goals exact Sl
theorem ry {b x:aa}(hp:zy b x):ap 270 [.agg [.s 1 b,.s 1 x]] [.one (.s 1 (ifL b x))]:=by
 have hbw:=hp.bw;have hxw:=hp.xw;have hbl:=hp.bl;have hxl:=hp.xl;refine cb Lj1.B Tryz.func270 ?_
 intro O r F hO hr hF;cbv
 repeat' first|apply Zb|(apply bu<;>intro hb<;>cbv)|(refine⟨[1,3,4],[1,3],Int×aa,fun s_=>match s_ with|(i,o)=>[.reg 4 (.j i),.reg 3 (.one (.vw 3 0 0 0 (O.ln o))),.leaf 3 0 ⟨0,0,none,.own (.s 1 o)⟩],fun s_=>match s_ with|(i,o)=>0<=i/\i<=(b.length:Int)/\JD b i o,fun s_=>match s_ with|(i,o)=>b.length-i.toNat,⟨(0,[]),?_,?_⟩,?_⟩;rotate_left;(focus (cbv;done));intro s_ hi;obtain⟨i,o⟩:=s_;replace hi:0<=i/\i<=(b.length:Int)/\JD b i o:=hi;obtain⟨i0,i1,i2⟩:=hi;cbv)|(refine⟨[1,3,4,5],[1,3],Int×aa,fun s_=>match s_ with|(k,o1)=>[.reg 5 (.j k),.reg 3 (.one (.vw 3 0 0 0 (O.ln o1))),.leaf 3 0 ⟨0,0,none,.own (.s 1 o1)⟩],fun s_=>match s_ with|(k,o1)=>0<=k/\k<=((aR b i 0).length:Int)/\JE b i k o1,fun s_=>match s_ with|(k,o1)=>(aR b i 0).length-k.toNat,⟨(0,o),?_,?_⟩,?_⟩;rotate_left;(focus (cbv;done));intro s_ hk;obtain⟨k,o1⟩:=s_;replace hk:0<=k/\k<=((aR b i 0).length:Int)/\JE b i k o1:=hk;obtain⟨k0,k1,k2⟩:=hk;cbv)|(refine⟨[1,3,6],[1,3],Int×aa,fun s_=>match s_ with|(j,o2)=>[.reg 6 (.j j),.reg 3 (.one (.vw 3 0 0 0 (O.ln o2))),.leaf 3 0 ⟨0,0,none,.own (.s 1 o2)⟩],fun s_=>match s_ with|(j,o2)=>0<=j/\j<=(x.length:Int)/\JF b x j o2,fun s_=>match s_ with|(j,o2)=>x.length-j.toNat,⟨(0,o),?_,?_⟩,?_⟩;rotate_left;(focus (cbv;done));intro s_ hj;obtain⟨j,o2⟩:=s_;replace hj:0<=j/\j<=(x.length:Int)/\JF b x j o2:=hj;obtain⟨j0,j1,j2⟩:=hj;cbv)|(refine ab (O.ar .add Za k 1,O.cat o1 (O.sub [[.i (O.gi (O.gs b i 0) k 1)]] 0 (O.ln [[.i (O.gi (O.gs b i 0) k 1)]]))) ?_ ?_ ?_;focus (cbv;done))|(refine ab (O.ar .add Za i 1,o1) ?_ ?_ ?_;focus (cbv;done))|(refine ab (O.ar .add Za j 1,O.cat o2 (O.gs x j 0)) ?_ ?_ ?_;focus (cbv;done))
 all_goals(subst hO hr hF;(try simp only[nc]at*);(try simp only[ak,SS,sa,az]at*);(try rw[cy (by omega) (by omega)]);(try have z9:bK .add Za j 1=j+1:=bh (by omega));(try have z8:bK .add Za i 1=i+1:=bh (by omega));(try simp only[z9]at*);(try simp only[z8]at*))
 all_goals exact Sl
end Go.V