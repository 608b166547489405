/- Contracts. -/
import Derived.Test.YtbedjnlfdopeeaaGreatXLayHu
set_option linter.all false
open Go
open And renaming intro->Zb
open IntKind renaming i64->Za
namespace Go.V
open Go Go.Proofs
set_option maxRecDepth 1000000
set_option maxHeartbeats 8000000
namespace Li1
structure aP where
 inR:Int->Int->Int->Bool
abbrev F0:aP:=⟨inR⟩
def ct (F:aP):CT:=fun f ds=>match f,ds with
 |41,[.one (.v (.int Za x)),.one (.v (.int Za a)),.one (.v (.int Za b))]=>some (fun _=>True,[.k (F.inR x a b)])
 |28,[.one (.v (.int Za x)),.one (.v (.int Za a)),.one (.v (.int Za b))]=>some (fun _=>True,[.k (F.inR x a b)])
 |_,_=>none
theorem aj:aT (ct F0):=by
 intro f ds pre res h hp;unfold ct at h;split at h<;>cases h
 exact bc hp;exact be hp
abbrev B:cF:=tb aj
end Li1
theorem lD {b x:aa}(hp:zy b x):ap 128 [.agg [.s 1 b,.s 1 x]] [.k (mailOk b x)]:=by
 have hbw:=hp.bw;have hxw:=hp.xw;have hbl:=hp.bl;have hxl:=hp.xl;have hsb:bK .sub Za (b.length:Int) 1=b.length-1:=cN (by omega);refine cb Li1.B Tryz.func128 ?_
 intro O r F hO hr hF;cbv
 repeat' first|apply Zb|(apply bu<;>intro hb<;>cbv)|(refine⟨[1,3,4,25,26],[1],Int×Int,fun s_=>match s_ with|(i,t)=>[.reg 26 (.j i),.reg 4 (.j t)],fun s_=>match s_ with|(i,t)=>0<=i/\i<=(b.length:Int)/\HU b x i t,fun s_=>match s_ with|(i,t)=>b.length-i.toNat,⟨(0,0),?_,?_⟩,?_⟩;rotate_left;(focus (cbv;done));intro s_ hi;obtain⟨i,t⟩:=s_;replace hi:0<=i/\i<=(b.length:Int)/\HU b x i t:=hi;obtain⟨i0,i1,i2⟩:=hi;cbv)|(refine⟨[1,3,4,5,25,26,33,34,35],[1],Int,fun k=>[.reg 35 (.j k)],fun k=>0<=k/\k<=(((aR b i 0).length:Nat):Int)/\upto (El b i) k,fun k=>((aR b i 0).length)-k.toNat,⟨0,?_,?_⟩,?_⟩;rotate_left;(focus (cbv;done));intro k hk;replace hk:0<=k/\k<=(((aR b i 0).length:Nat):Int)/\upto (El b i) k:=hk;obtain⟨k0,k1,k2⟩:=hk;cbv)|(refine ab (O.ar .add Za k 1) ?_ ?_ ?_;focus (cbv;done))|(refine⟨[1,3,4,5,25,26,55,56,57],[1],Int,fun j=>[.reg 57 (.j j)],fun j=>0<=j/\j<=(((aR x i 0).length:Nat):Int)/\upto (EM x i) j,fun j=>((aR x i 0).length)-j.toNat,⟨0,?_,?_⟩,?_⟩;rotate_left;(focus (cbv;done));intro j hj;replace hj:0<=j/\j<=(((aR x i 0).length:Nat):Int)/\upto (EM x i) j:=hj;obtain⟨j0,j1,j2⟩:=hj;cbv)|(refine ab (O.ar .add Za j 1) ?_ ?_ ?_;focus (cbv;done))|(refine ab (O.ar .add Za i 1,O.ar .add Za t (O.ar .add Za (O.zi (O.ln (O.gs b i 0))) (O.zi (O.ln (O.gs x i 0))))) ?_ ?_ ?_;focus (cbv;done))
 all_goals(subst hO hr hF;(try simp only[nc]at*);(try simp only[ak,SS,sa,az]at*);(try simp only[hsb]at*);(try have y2:=hp.xn i);(try have y1:=hp.bn i);(try rw[cy (by omega) (by omega)]);(try have z6:bK .add Za k 1=k+1:=bh (by omega));(try simp only[z6]at*);(try have z7:bK .add Za j 1=j+1:=bh (by omega));(try simp only[z7]at*);(try have q:=QA hp i2 i0 (by have r:=bB.1 (by assumption:inR (b.length:Int) 1 4=true);omega));(try have z8:bK .add Za (((aR b i 0).length:Nat):Int) (((aR x i 0).length:Nat):Int)=((aR b i 0).length:Int)+(aR x i 0).length:=bh (by omega));(try simp only[z8]at*);(try have z9:bK .add Za t (((aR b i 0).length:Int)+(aR x i 0).length)=t+(((aR b i 0).length:Int)+(aR x i 0).length):=bh (by omega)))
 all_goals exact Sn
theorem lI {b x:aa}(hp:zy b x):ap 169 [.agg [.s 1 b,.s 1 x]] [.k (mailOk b x)]:=by
 have hbw:=hp.bw;have hxw:=hp.xw;have hbl:=hp.bl;have hxl:=hp.xl;have hsb:bK .sub Za (b.length:Int) 1=b.length-1:=cN (by omega);refine cb Li1.B Tryz.func169 ?_
 intro O r F hO hr hF;cbv
 repeat' first|apply Zb|(apply bu<;>intro hb<;>cbv)|(refine⟨[1,3,4,5],[1],Int×Int,fun s_=>match s_ with|(i,t)=>[.reg 5 (.j i),.reg 4 (.j t)],fun s_=>match s_ with|(i,t)=>0<=i/\i<=(b.length:Int)/\HU b x i t,fun s_=>match s_ with|(i,t)=>b.length-i.toNat,⟨(0,0),?_,?_⟩,?_⟩;rotate_left;(focus (cbv;done));intro s_ hi;obtain⟨i,t⟩:=s_;replace hi:0<=i/\i<=(b.length:Int)/\HU b x i t:=hi;obtain⟨i0,i1,i2⟩:=hi;cbv)|(refine⟨[1,3,4,5,6],[1],Int,fun k=>[.reg 6 (.j k)],fun k=>0<=k/\k<=(((aR b i 0).length:Nat):Int)/\upto (El b i) k,fun k=>((aR b i 0).length)-k.toNat,⟨0,?_,?_⟩,?_⟩;rotate_left;(focus (cbv;done));intro k hk;replace hk:0<=k/\k<=(((aR b i 0).length:Nat):Int)/\upto (El b i) k:=hk;obtain⟨k0,k1,k2⟩:=hk;cbv)|(refine ab (O.ar .add Za k 1) ?_ ?_ ?_;focus (cbv;done))|(refine⟨[1,3,4,5,8],[1],Int,fun j=>[.reg 8 (.j j)],fun j=>0<=j/\j<=(((aR x i 0).length:Nat):Int)/\upto (EM x i) j,fun j=>((aR x i 0).length)-j.toNat,⟨0,?_,?_⟩,?_⟩;rotate_left;(focus (cbv;done));intro j hj;replace hj:0<=j/\j<=(((aR x i 0).length:Nat):Int)/\upto (EM x i) j:=hj;obtain⟨j0,j1,j2⟩:=hj;cbv)|(refine ab (O.ar .add Za j 1) ?_ ?_ ?_;focus (cbv;done))|(refine ab (O.ar .add Za i 1,O.ar .add Za (O.ar .add Za t (O.zi (O.ln (O.gs b i 0)))) (O.zi (O.ln (O.gs x i 0)))) ?_ ?_ ?_;focus (cbv;done))
 all_goals(subst hO hr hF;(try simp only[nc]at*);(try simp only[ak,SS,sa,az]at*);(try simp only[hsb]at*);(try have y2:=hp.xn i);(try have y1:=hp.bn i);(try rw[cy (by omega) (by omega)]);(try have z6:bK .add Za k 1=k+1:=bh (by omega));(try simp only[z6]at*);(try have z7:bK .add Za j 1=j+1:=bh (by omega));(try simp only[z7]at*);(try have q:=QA hp i2 i0 (by have r:=bB.1 (by assumption:inR (b.length:Int) 1 4=true);omega));(try have z8:bK .add Za t (((aR b i 0).length:Nat):Int)=t+((aR b i 0).length:Int):=bh (by omega));(try simp only[z8]at*);(try have z9:bK .add Za (t+((aR b i 0).length:Int)) (((aR x i 0).length:Nat):Int)=t+(((aR b i 0).length:Int)+(aR x i 0).length):=(bh (by omega)).trans (by omega)))
 all_goals exact Sn
end Go.V