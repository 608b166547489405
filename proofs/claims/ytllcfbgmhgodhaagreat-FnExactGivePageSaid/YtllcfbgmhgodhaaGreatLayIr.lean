/- Contracts. -/
import Derived.Test.YtllcfbgmhgodhaaGreatLayHr
set_option linter.all false
namespace Go.V
open Go Go.Proofs
set_option maxRecDepth 1000000
set_option maxHeartbeats 8000000
namespace Li1
structure aQ where
 inR:Int->Int->Int->Bool
abbrev F0 :aQ:=⟨inR⟩
def ct (F:aQ):CT:=fun f ds=>match f,ds with
 |105,[.one (.v (.int .i64 x)),.one (.v (.int .i64 a)),.one (.v (.int .i64 b))]=>some (fun _=>True,[.k (F.inR x a b)])
 |103,[.one (.v (.int .i64 x)),.one (.v (.int .i64 a)),.one (.v (.int .i64 b))]=>some (fun _=>True,[.k (F.inR x a b)])
 |_,_=>none
theorem ai :aS (ct F0):=by
 intro f ds pre res h hp;unfold ct at h;split at h<;>cases h
 exact aZ hp;exact bg hp
abbrev B :cy:=tb ai
end Li1
theorem lX {b x:aa}(hp:zY b x):au 157 [.agg [.s 1 b,.s 1 x]] [.k (mailOk b x)]:=by
 have hbw:=hp.bw;have hxw:=hp.xw;have hbl:=hp.bl;have hxl:=hp.xl;have hsb:bF .sub .i64 (b.length:Int) 1=b.length-1:=cR (by omega);refine cb Li1.B Tryz.func157 ?_
 intro O r F hO hr hF;cbv
 repeat' first|apply And.intro|(apply be<;>intro hb<;>cbv)|(refine⟨[1,3,4,25,26],[1],Int×Int,fun s_=>match s_ with|(i,t)=>[.reg 26 (.j i),.reg 4 (.j t)],fun s_=>match s_ with|(i,t)=>0<=i/\i<=(b.length:Int)/\Ir b x i t,fun s_=>match s_ with|(i,t)=>b.length-i.toNat,⟨(0,0),?_,?_⟩,?_⟩;rotate_left;(focus (cbv;done));intro s_ hi;obtain⟨i,t⟩:=s_;replace hi:0<=i/\i<=(b.length:Int)/\Ir b x i t:=hi;obtain⟨i0,i1,i2⟩:=hi;cbv)|(refine⟨[1,3,4,5,25,26,33,34,35],[1],Int,fun k=>[.reg 35 (.j k)],fun k=>0<=k/\k<=(((aR b i 0).length:Nat):Int)/\upto (EN b i) k,fun k=>((aR b i 0).length)-k.toNat,⟨0,?_,?_⟩,?_⟩;rotate_left;(focus (cbv;done));intro k hk;replace hk:0<=k/\k<=(((aR b i 0).length:Nat):Int)/\upto (EN b i) k:=hk;obtain⟨k0,k1,k2⟩:=hk;cbv)|(refine ab (O.ar .add .i64 k 1) ?_ ?_ ?_;focus (cbv;done))|(refine⟨[1,3,4,5,25,26,55,56,57],[1],Int,fun j=>[.reg 57 (.j j)],fun j=>0<=j/\j<=(((aR x i 0).length:Nat):Int)/\upto (Fe x i) j,fun j=>((aR x i 0).length)-j.toNat,⟨0,?_,?_⟩,?_⟩;rotate_left;(focus (cbv;done));intro j hj;replace hj:0<=j/\j<=(((aR x i 0).length:Nat):Int)/\upto (Fe x i) j:=hj;obtain⟨j0,j1,j2⟩:=hj;cbv)|(refine ab (O.ar .add .i64 j 1) ?_ ?_ ?_;focus (cbv;done))|(refine ab (O.ar .add .i64 i 1,O.ar .add .i64 t (O.ar .add .i64 (O.zi (O.ln (O.gs b i 0))) (O.zi (O.ln (O.gs x i 0))))) ?_ ?_ ?_;focus (cbv;done))
 all_goals(subst hO hr hF;(try simp only[nc]at*);(try simp only[aj,SS,sa,az]at*);(try simp only[hsb]at*);(try have y2:=hp.xn i);(try have y1:=hp.bn i);(try rw[cv (by omega) (by omega)]);(try have z6:bF .add .i64 k 1=k+1:=bc (by omega));(try simp only[z6]at*);(try have z7:bF .add .i64 j 1=j+1:=bc (by omega));(try simp only[z7]at*);(try have q:=QK hp i2 i0 (by have r:=bE.1 (by assumption:inR (b.length:Int) 1 4=true);omega));(try have z8:bF .add .i64 (((aR b i 0).length:Nat):Int) (((aR x i 0).length:Nat):Int)=((aR b i 0).length:Int)+(aR x i 0).length:=bc (by omega));(try simp only[z8]at*);(try have z9:bF .add .i64 t (((aR b i 0).length:Int)+(aR x i 0).length)=t+(((aR b i 0).length:Int)+(aR x i 0).length):=bc (by omega)))
 all_goals exact SE
theorem l9 {b x:aa}(hp:zY b x):au 127 [.agg [.s 1 b,.s 1 x]] [.k (mailOk b x)]:=by
 have hbw:=hp.bw;have hxw:=hp.xw;have hbl:=hp.bl;have hxl:=hp.xl;have hsb:bF .sub .i64 (b.length:Int) 1=b.length-1:=cR (by omega);refine cb Li1.B Tryz.func127 ?_
 intro O r F hO hr hF;cbv
 repeat' first|apply And.intro|(apply be<;>intro hb<;>cbv)|(refine⟨[1,3,4,5],[1],Int×Int,fun s_=>match s_ with|(i,t)=>[.reg 5 (.j i),.reg 4 (.j t)],fun s_=>match s_ with|(i,t)=>0<=i/\i<=(b.length:Int)/\Ir b x i t,fun s_=>match s_ with|(i,t)=>b.length-i.toNat,⟨(0,0),?_,?_⟩,?_⟩;rotate_left;(focus (cbv;done));intro s_ hi;obtain⟨i,t⟩:=s_;replace hi:0<=i/\i<=(b.length:Int)/\Ir b x i t:=hi;obtain⟨i0,i1,i2⟩:=hi;cbv)|(refine⟨[1,3,4,5,6],[1],Int,fun k=>[.reg 6 (.j k)],fun k=>0<=k/\k<=(((aR b i 0).length:Nat):Int)/\upto (EN b i) k,fun k=>((aR b i 0).length)-k.toNat,⟨0,?_,?_⟩,?_⟩;rotate_left;(focus (cbv;done));intro k hk;replace hk:0<=k/\k<=(((aR b i 0).length:Nat):Int)/\upto (EN b i) k:=hk;obtain⟨k0,k1,k2⟩:=hk;cbv)|(refine ab (O.ar .add .i64 k 1) ?_ ?_ ?_;focus (cbv;done))|(refine⟨[1,3,4,5,8],[1],Int,fun j=>[.reg 8 (.j j)],fun j=>0<=j/\j<=(((aR x i 0).length:Nat):Int)/\upto (Fe x i) j,fun j=>((aR x i 0).length)-j.toNat,⟨0,?_,?_⟩,?_⟩;rotate_left;(focus (cbv;done));intro j hj;replace hj:0<=j/\j<=(((aR x i 0).length:Nat):Int)/\upto (Fe x i) j:=hj;obtain⟨j0,j1,j2⟩:=hj;cbv)|(refine ab (O.ar .add .i64 j 1) ?_ ?_ ?_;focus (cbv;done))|(refine ab (O.ar .add .i64 i 1,O.ar .add .i64 (O.ar .add .i64 t (O.zi (O.ln (O.gs b i 0)))) (O.zi (O.ln (O.gs x i 0)))) ?_ ?_ ?_;focus (cbv;done))
 all_goals(subst hO hr hF;(try simp only[nc]at*);(try simp only[aj,SS,sa,az]at*);(try simp only[hsb]at*);(try have y2:=hp.xn i);(try have y1:=hp.bn i);(try rw[cv (by omega) (by omega)]);(try have z6:bF .add .i64 k 1=k+1:=bc (by omega));(try simp only[z6]at*);(try have z7:bF .add .i64 j 1=j+1:=bc (by omega));(try simp only[z7]at*);(try have q:=QK hp i2 i0 (by have r:=bE.1 (by assumption:inR (b.length:Int) 1 4=true);omega));(try have z8:bF .add .i64 t (((aR b i 0).length:Nat):Int)=t+((aR b i 0).length:Int):=bc (by omega));(try simp only[z8]at*);(try have z9:bF .add .i64 (t+((aR b i 0).length:Int)) (((aR x i 0).length:Nat):Int)=t+(((aR b i 0).length:Int)+(aR x i 0).length):=(bc (by omega)).trans (by omega)))
 all_goals exact SE
end Go.V