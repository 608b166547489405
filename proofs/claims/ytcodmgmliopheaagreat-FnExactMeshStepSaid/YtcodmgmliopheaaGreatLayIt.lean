/- Contracts. -/
import Derived.Test.YtcodmgmliopheaaGreatLayHt
set_option linter.all false
open Go
open And renaming intro->AT
namespace Go.V
open Go Go.Proofs
set_option maxRecDepth 1000000
set_option maxHeartbeats 8000000
namespace Li1
structure aQ where
 inR:Int->Int->Int->Bool
abbrev F0 :aQ:=⟨inR⟩
def ct (F:aQ):CT:=fun f ds=>match f,ds with
 |91,[.one (.v (.int .i64 x)),.one (.v (.int .i64 a)),.one (.v (.int .i64 b))]=>some (fun _=>True,[.k (F.inR x a b)])
 |89,[.one (.v (.int .i64 x)),.one (.v (.int .i64 a)),.one (.v (.int .i64 b))]=>some (fun _=>True,[.k (F.inR x a b)])
 |_,_=>none
theorem aj :aR (ct F0):=by
 intro f ds pre res h hp;unfold ct at h;split at h<;>cases h
 exact bc hp;exact be hp
abbrev B :cy:=tb aj
end Li1
theorem lQ {b x:aa}(hp:Aa b x):aw 170 [.agg [.s 1 b,.s 1 x]] [.k (mailOk b x)]:=by
 have hbw:=hp.bw;have hxw:=hp.xw;have hbl:=hp.bl;have hxl:=hp.xl;have hsb:bJ .sub .i64 (b.length:Int) 1=b.length-1:=cO (by omega);refine cb Li1.B Tryz.func170 ?_
 intro O r F hO hr hF;cbv
 repeat' first|apply AT|(apply bi<;>intro hb<;>cbv)|(refine⟨[1,3,4,25,26],[1],Int×Int,fun s_=>match s_ with|(i,t)=>[.reg 26 (.j i),.reg 4 (.j t)],fun s_=>match s_ with|(i,t)=>0<=i/\i<=(b.length:Int)/\HF b x i t,fun s_=>match s_ with|(i,t)=>b.length-i.toNat,⟨(0,0),?_,?_⟩,?_⟩;rotate_left;(focus (cbv;done));intro s_ hi;obtain⟨i,t⟩:=s_;replace hi:0<=i/\i<=(b.length:Int)/\HF b x i t:=hi;obtain⟨i0,i1,i2⟩:=hi;cbv)|(refine⟨[1,3,4,5,25,26,33,34,35],[1],Int,fun k=>[.reg 35 (.j k)],fun k=>0<=k/\k<=(((aO b i 0).length:Nat):Int)/\upto (Eu b i) k,fun k=>((aO b i 0).length)-k.toNat,⟨0,?_,?_⟩,?_⟩;rotate_left;(focus (cbv;done));intro k hk;replace hk:0<=k/\k<=(((aO b i 0).length:Nat):Int)/\upto (Eu b i) k:=hk;obtain⟨k0,k1,k2⟩:=hk;cbv)|(refine ab (O.ar .add .i64 k 1) ?_ ?_ ?_;focus (cbv;done))|(refine⟨[1,3,4,5,25,26,55,56,57],[1],Int,fun j=>[.reg 57 (.j j)],fun j=>0<=j/\j<=(((aO x i 0).length:Nat):Int)/\upto (EQ x i) j,fun j=>((aO x i 0).length)-j.toNat,⟨0,?_,?_⟩,?_⟩;rotate_left;(focus (cbv;done));intro j hj;replace hj:0<=j/\j<=(((aO x i 0).length:Nat):Int)/\upto (EQ x i) j:=hj;obtain⟨j0,j1,j2⟩:=hj;cbv)|(refine ab (O.ar .add .i64 j 1) ?_ ?_ ?_;focus (cbv;done))|(refine ab (O.ar .add .i64 i 1,O.ar .add .i64 t (O.ar .add .i64 (O.zi (O.ln (O.gs b i 0))) (O.zi (O.ln (O.gs x i 0))))) ?_ ?_ ?_;focus (cbv;done))
 all_goals(subst hO hr hF;(try simp only[nc]at*);(try simp only[ah,SS,sa,az]at*);(try simp only[hsb]at*);(try have y2:=hp.xn i);(try have y1:=hp.bn i);(try rw[cE (by omega) (by omega)]);(try have z6:bJ .add .i64 k 1=k+1:=bB (by omega));(try simp only[z6]at*);(try have z7:bJ .add .i64 j 1=j+1:=bB (by omega));(try simp only[z7]at*);(try have q:=PH hp i2 i0 (by have r:=bH.1 (by assumption:inR (b.length:Int) 1 4=true);omega));(try have z8:bJ .add .i64 (((aO b i 0).length:Nat):Int) (((aO x i 0).length:Nat):Int)=((aO b i 0).length:Int)+(aO x i 0).length:=bB (by omega));(try simp only[z8]at*);(try have z9:bJ .add .i64 t (((aO b i 0).length:Int)+(aO x i 0).length)=t+(((aO b i 0).length:Int)+(aO x i 0).length):=bB (by omega)))
 all_goals exact Q8
theorem lS {b x:aa}(hp:Aa b x):aw 139 [.agg [.s 1 b,.s 1 x]] [.k (mailOk b x)]:=by
 have hbw:=hp.bw;have hxw:=hp.xw;have hbl:=hp.bl;have hxl:=hp.xl;have hsb:bJ .sub .i64 (b.length:Int) 1=b.length-1:=cO (by omega);refine cb Li1.B Tryz.func139 ?_
 intro O r F hO hr hF;cbv
 repeat' first|apply AT|(apply bi<;>intro hb<;>cbv)|(refine⟨[1,3,4,5],[1],Int×Int,fun s_=>match s_ with|(i,t)=>[.reg 5 (.j i),.reg 4 (.j t)],fun s_=>match s_ with|(i,t)=>0<=i/\i<=(b.length:Int)/\HF b x i t,fun s_=>match s_ with|(i,t)=>b.length-i.toNat,⟨(0,0),?_,?_⟩,?_⟩;rotate_left;(focus (cbv;done));intro s_ hi;obtain⟨i,t⟩:=s_;replace hi:0<=i/\i<=(b.length:Int)/\HF b x i t:=hi;obtain⟨i0,i1,i2⟩:=hi;cbv)|(refine⟨[1,3,4,5,6],[1],Int,fun k=>[.reg 6 (.j k)],fun k=>0<=k/\k<=(((aO b i 0).length:Nat):Int)/\upto (Eu b i) k,fun k=>((aO b i 0).length)-k.toNat,⟨0,?_,?_⟩,?_⟩;rotate_left;(focus (cbv;done));intro k hk;replace hk:0<=k/\k<=(((aO b i 0).length:Nat):Int)/\upto (Eu b i) k:=hk;obtain⟨k0,k1,k2⟩:=hk;cbv)|(refine ab (O.ar .add .i64 k 1) ?_ ?_ ?_;focus (cbv;done))|(refine⟨[1,3,4,5,8],[1],Int,fun j=>[.reg 8 (.j j)],fun j=>0<=j/\j<=(((aO x i 0).length:Nat):Int)/\upto (EQ x i) j,fun j=>((aO x i 0).length)-j.toNat,⟨0,?_,?_⟩,?_⟩;rotate_left;(focus (cbv;done));intro j hj;replace hj:0<=j/\j<=(((aO x i 0).length:Nat):Int)/\upto (EQ x i) j:=hj;obtain⟨j0,j1,j2⟩:=hj;cbv)|(refine ab (O.ar .add .i64 j 1) ?_ ?_ ?_;focus (cbv;done))|(refine ab (O.ar .add .i64 i 1,O.ar .add .i64 (O.ar .add .i64 t (O.zi (O.ln (O.gs b i 0)))) (O.zi (O.ln (O.gs x i 0)))) ?_ ?_ ?_;focus (cbv;done))
 all_goals(subst hO hr hF;(try simp only[nc]at*);(try simp only[ah,SS,sa,az]at*);(try simp only[hsb]at*);(try have y2:=hp.xn i);(try have y1:=hp.bn i);(try rw[cE (by omega) (by omega)]);(try have z6:bJ .add .i64 k 1=k+1:=bB (by omega));(try simp only[z6]at*);(try have z7:bJ .add .i64 j 1=j+1:=bB (by omega));(try simp only[z7]at*);(try have q:=PH hp i2 i0 (by have r:=bH.1 (by assumption:inR (b.length:Int) 1 4=true);omega));(try have z8:bJ .add .i64 t (((aO b i 0).length:Nat):Int)=t+((aO b i 0).length:Int):=bB (by omega));(try simp only[z8]at*);(try have z9:bJ .add .i64 (t+((aO b i 0).length:Int)) (((aO x i 0).length:Nat):Int)=t+(((aO b i 0).length:Int)+(aO x i 0).length):=(bB (by omega)).trans (by omega)))
 all_goals exact Q8
end Go.V