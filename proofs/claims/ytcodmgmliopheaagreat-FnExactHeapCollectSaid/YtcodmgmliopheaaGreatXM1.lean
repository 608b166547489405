/- Contracts. -/
import Derived.Test.YtcodmgmliopheaaGreatXLayFt
set_option linter.all false
open Go
open And renaming intro->By
namespace Go.V
open Go Go.Proofs
set_option maxRecDepth 1000000
set_option maxHeartbeats 8000000
def iM :EC:=fun F=>fun
 |[.agg [.v (.int .i64 d0),.v (.int .i64 d1),.v (.int .i64 d2)],.ptr [.v (.int .i64 ad)]]=>some (fun _=>True,[.k (F.eqB d0 ad)])
 |_=>none
theorem tu :ec 404 iM:=by
 intro _ _ _ h hp;dsimp only[iM,F0]at h;split at h<;>cases h
 rename_i d0 d1 d2 ad;refine cb nB Tryz.func404 ?_
 exact aa5
abbrev Lg1 :cW:=eF (fun F f=>match f with|404=>iM F|_=>fun _=>none) (by
 intro f;dsimp only;split;exact tu;exact cX)
def aY :EC:=fun F=>fun
 |[.one (.s 3 os),.fn 404 [[.v (.int .i64 id)]]]=>some (fun _=>Rw [tI,tI,tI] os/\os.length<=1099511627776,[.j (F.qtI os id)])
 |_=>none
theorem cf :ec 425 aY:=by
 intro _ _ _ h hp;dsimp only[aY,F0]at h;split at h<;>cases h
 rename_i os id;obtain⟨hw,hn⟩:=hp;refine cb Lg1 Tryz.func425 ?_
 intro O r F hO hr hF;cbv
 repeat' first|apply By|(apply bD<;>intro hb<;>cbv)|(refine⟨[0,1,7,8],[0],Int,fun i=>[.reg 8 (.j i)],fun i=>0<=i/\i<=((os.length:Nat):Int)/\upto (dt (Cz os id)) i,fun i=>(os.length)-i.toNat,⟨0,?_,?_⟩,?_⟩;rotate_left;(focus (cbv;done));intro i hi;replace hi:0<=i/\i<=((os.length:Nat):Int)/\upto (dt (Cz os id)) i:=hi;obtain⟨i0,i1,i2⟩:=hi;cbv)|(refine ab (O.ar .add .i64 i 1) ?_ ?_ ?_;focus (cbv;done))
 all_goals(subst hO hr hF;(try simp only[nc]at*);(try simp only[ah,SS,sa,az]at*);(try rw[di (by omega) (by omega)]))
 all_goals first
  | (show(_:List DV)=_
     first
      |exact dZ (fF i2 i0 (by assumption) (show Cz os id i=true from by assumption)).symm
      |exact dZ (gB i2 (by assumption)).symm
      |done)
  |omega
  |exact gp
  |(show(lk _ _).isSome=true;kernel_rfl)
  |exact bM
  |exact bj i2 (oD (show Cz os id i=false from by assumption))
  |done
abbrev Lg2 :cW:=eF (fun F f=>match f with|425=>aY F|_=>fun _=>none) (by
 intro f;dsimp only;split;exact cf;exact cX)
def aV :EC:=fun F=>fun
 |[.one (.s 3 os),.fn 404 [[.v (.int .i64 id)]]]=>some (fun _=>Rw [tI,tI,tI] os/\os.length<=1099511627776,[.k (F.qtB os id)])
 |_=>none
theorem ca :ec 403 aV:=by
 intro _ _ _ h hp;dsimp only[aV,F0]at h;split at h<;>cases h
 rename_i os id;refine cb Lg2 Tryz.func403 ?_
 intro O r F hO hr hF;cbv
 repeat' first|apply By|(apply bD<;>intro hb<;>cbv)
 all_goals(subst hO hr hF;(try simp only[nc]at*);(try simp only[ah,SS,sa,az]at*))
 all_goals first
  | (show(_:List DV)=_
     first
      |exact ai (gY (by unfold qtB;simp only[SS,decide_eq_true_eq]))
      |done)
  |exact hp
  |done
abbrev Lg3 :cW:=eF (fun F f=>match f with|403=>aV F|_=>fun _=>none) (by
 intro f;dsimp only;split;exact ca;exact cX)
def hY :EC:=fun F=>fun
 |[.one (.s 3 os),.one (.v (.int .i64 id))]=>some (fun _=>Rw [tI,tI,tI] os/\os.length<=1099511627776,[.k (F.qtB os id)])
 |_=>none
theorem pT :ec 344 hY:=by
 intro _ _ _ h hp;dsimp only[hY,F0]at h;split at h<;>cases h
 rename_i os id;refine cb Lg3 Tryz.func344 ?_
 exact aba
abbrev Lg4 :cW:=eF (fun F f=>match f with|344=>hY F|_=>fun _=>none) (by
 intro f;dsimp only;split;exact pT;exact cX)
def mE :EC:=fun F=>fun
 |[.agg [.v (.int .i64 rm),.s 3 os],.one (.v (.int .i64 id))]=>some (fun _=>Rw [tI,tI,tI] os/\os.length<=1099511627776,[.k (F.qtB os id)])
 |_=>none
theorem zS :ec 272 mE:=by
 intro _ _ _ h hp;dsimp only[mE,F0]at h;split at h<;>cases h
 rename_i rm os id;obtain⟨hw,hn⟩:=hp;have hm:=hw.1;unfold maxLen at hm;refine cb Lg4 Tryz.func272 ?_
 intro O r F hO hr hF;cbv
 repeat' first|apply By|(apply bD<;>intro hb<;>cbv)|(refine⟨[1,2,5],[2],Int,fun i=>[.reg 5 (.j i)],fun i=>0<=i/\i<=((os.length:Nat):Int)/\upto (dt (Cz os id)) i,fun i=>(os.length)-i.toNat,⟨0,?_,?_⟩,?_⟩;rotate_left;(focus (cbv;done));intro i hi;replace hi:0<=i/\i<=((os.length:Nat):Int)/\upto (dt (Cz os id)) i:=hi;obtain⟨i0,i1,i2⟩:=hi;cbv)|(refine ab (O.ar .add .i64 i 1) ?_ ?_ ?_;focus (cbv;done))
 all_goals(subst hO hr hF;(try simp only[nc]at*);(try simp only[ah,SS,sa,az]at*);(try rw[di (by omega) (by omega)]))
 all_goals first
  | (show(_:List DV)=_
     first
      |(refine ai ?_;symm;exact VH i2 i0 (by assumption) (by assumption))
      |(refine ai ?_;symm;exact ZM i2 (by omega))
      |done)
  |omega
  |exact gp
  |exact bM
  |exact bj i2 (oD (show Cz os id i=false from CX (by assumption)))
  |done
abbrev Li1 :cW:=eF (fun F f=>match f with|91=>aj F|89=>aj F|_=>fun _=>none) (by
 intro f;dsimp only;split;exact bu;exact bC;exact cX)
def cD :EC:=fun F=>fun
 |[.agg [.s 1 b,.s 1 x]]=>some (fun _=>Lm b x,[.k (F.mailOk b x)])
 |_=>none
theorem jR :ec 170 cD:=by
 intro _ _ _ h hp;dsimp only[cD,F0]at h;split at h<;>cases h
 rename_i b x;have hbw:=hp.bw;have hxw:=hp.xw;have hbl:=hp.bl;have hxl:=hp.xl;have hsb:bR .sub .i64 (b.length:Int) 1=b.length-1:=dD (by omega);refine cb Li1 Tryz.func170 ?_
 intro O r F hO hr hF;cbv
 repeat' first|apply By|(apply bD<;>intro hb<;>cbv)|(refine⟨[1,3,4,25,26],[1],Int×Int,fun s_=>match s_ with|(i,t)=>[.reg 26 (.j i),.reg 4 (.j t)],fun s_=>match s_ with|(i,t)=>0<=i/\i<=(b.length:Int)/\OY b x i t,fun s_=>match s_ with|(i,t)=>b.length-i.toNat,⟨(0,0),?_,?_⟩,?_⟩;rotate_left;(focus (cbv;done));intro s_ hi;obtain⟨i,t⟩:=s_;replace hi:0<=i/\i<=(b.length:Int)/\OY b x i t:=hi;obtain⟨i0,i1,i2⟩:=hi;cbv)|(refine⟨[1,3,4,5,25,26,33,34,35],[1],Int,fun k=>[.reg 35 (.j k)],fun k=>0<=k/\k<=(((ap b i 0).length:Nat):Int)/\upto (KS b i) k,fun k=>((ap b i 0).length)-k.toNat,⟨0,?_,?_⟩,?_⟩;rotate_left;(focus (cbv;done));intro k hk;replace hk:0<=k/\k<=(((ap b i 0).length:Nat):Int)/\upto (KS b i) k:=hk;obtain⟨k0,k1,k2⟩:=hk;cbv)|(refine ab (O.ar .add .i64 k 1) ?_ ?_ ?_;focus (cbv;done))|(refine⟨[1,3,4,5,25,26,55,56,57],[1],Int,fun j=>[.reg 57 (.j j)],fun j=>0<=j/\j<=(((ap x i 0).length:Nat):Int)/\upto (Lq x i) j,fun j=>((ap x i 0).length)-j.toNat,⟨0,?_,?_⟩,?_⟩;rotate_left;(focus (cbv;done));intro j hj;replace hj:0<=j/\j<=(((ap x i 0).length:Nat):Int)/\upto (Lq x i) j:=hj;obtain⟨j0,j1,j2⟩:=hj;cbv)|(refine ab (O.ar .add .i64 j 1) ?_ ?_ ?_;focus (cbv;done))|(refine ab (O.ar .add .i64 i 1,O.ar .add .i64 t (O.ar .add .i64 (O.zi (O.ln (O.gs b i 0))) (O.zi (O.ln (O.gs x i 0))))) ?_ ?_ ?_;focus (cbv;done))
 all_goals(subst hO hr hF;(try simp only[nc]at*);(try simp only[ah,SS,sa,az]at*);(try simp only[hsb]at*);(try have y2:=hp.xn i);(try have y1:=hp.bn i);(try rw[di (by omega) (by omega)]);(try have z6:bR .add .i64 k 1=k+1:=bE (by omega));(try simp only[z6]at*);(try have z7:bR .add .i64 j 1=j+1:=bE (by omega));(try simp only[z7]at*);(try have q:=YZ hp i2 i0 (by have r:=bP.1 (by assumption:inR (b.length:Int) 1 4=true);omega));(try have z8:bR .add .i64 (((ap b i 0).length:Nat):Int) (((ap x i 0).length:Nat):Int)=((ap b i 0).length:Int)+(ap x i 0).length:=bE (by omega));(try simp only[z8]at*);(try have z9:bR .add .i64 t (((ap b i 0).length:Int)+(ap x i 0).length)=t+(((ap b i 0).length:Int)+(ap x i 0).length):=bE (by omega)))
 all_goals exact aaF
theorem jS :ec 139 cD:=by
 intro _ _ _ h hp;dsimp only[cD,F0]at h;split at h<;>cases h
 rename_i b x;have hbw:=hp.bw;have hxw:=hp.xw;have hbl:=hp.bl;have hxl:=hp.xl;have hsb:bR .sub .i64 (b.length:Int) 1=b.length-1:=dD (by omega);refine cb Li1 Tryz.func139 ?_
 intro O r F hO hr hF;cbv
 repeat' first|apply By|(apply bD<;>intro hb<;>cbv)|(refine⟨[1,3,4,5],[1],Int×Int,fun s_=>match s_ with|(i,t)=>[.reg 5 (.j i),.reg 4 (.j t)],fun s_=>match s_ with|(i,t)=>0<=i/\i<=(b.length:Int)/\OY b x i t,fun s_=>match s_ with|(i,t)=>b.length-i.toNat,⟨(0,0),?_,?_⟩,?_⟩;rotate_left;(focus (cbv;done));intro s_ hi;obtain⟨i,t⟩:=s_;replace hi:0<=i/\i<=(b.length:Int)/\OY b x i t:=hi;obtain⟨i0,i1,i2⟩:=hi;cbv)|(refine⟨[1,3,4,5,6],[1],Int,fun k=>[.reg 6 (.j k)],fun k=>0<=k/\k<=(((ap b i 0).length:Nat):Int)/\upto (KS b i) k,fun k=>((ap b i 0).length)-k.toNat,⟨0,?_,?_⟩,?_⟩;rotate_left;(focus (cbv;done));intro k hk;replace hk:0<=k/\k<=(((ap b i 0).length:Nat):Int)/\upto (KS b i) k:=hk;obtain⟨k0,k1,k2⟩:=hk;cbv)|(refine ab (O.ar .add .i64 k 1) ?_ ?_ ?_;focus (cbv;done))|(refine⟨[1,3,4,5,8],[1],Int,fun j=>[.reg 8 (.j j)],fun j=>0<=j/\j<=(((ap x i 0).length:Nat):Int)/\upto (Lq x i) j,fun j=>((ap x i 0).length)-j.toNat,⟨0,?_,?_⟩,?_⟩;rotate_left;(focus (cbv;done));intro j hj;replace hj:0<=j/\j<=(((ap x i 0).length:Nat):Int)/\upto (Lq x i) j:=hj;obtain⟨j0,j1,j2⟩:=hj;cbv)|(refine ab (O.ar .add .i64 j 1) ?_ ?_ ?_;focus (cbv;done))|(refine ab (O.ar .add .i64 i 1,O.ar .add .i64 (O.ar .add .i64 t (O.zi (O.ln (O.gs b i 0)))) (O.zi (O.ln (O.gs x i 0)))) ?_ ?_ ?_;focus (cbv;done))
 all_goals(subst hO hr hF;(try simp only[nc]at*);(try simp only[ah,SS,sa,az]at*);(try simp only[hsb]at*);(try have y2:=hp.xn i);(try have y1:=hp.bn i);(try rw[di (by omega) (by omega)]);(try have z6:bR .add .i64 k 1=k+1:=bE (by omega));(try simp only[z6]at*);(try have z7:bR .add .i64 j 1=j+1:=bE (by omega));(try simp only[z7]at*);(try have q:=YZ hp i2 i0 (by have r:=bP.1 (by assumption:inR (b.length:Int) 1 4=true);omega));(try have z8:bR .add .i64 t (((ap b i 0).length:Nat):Int)=t+((ap b i 0).length:Int):=bE (by omega));(try simp only[z8]at*);(try have z9:bR .add .i64 (t+((ap b i 0).length:Int)) (((ap x i 0).length:Nat):Int)=t+(((ap b i 0).length:Int)+(ap x i 0).length):=(bE (by omega)).trans (by omega)))
 all_goals exact aaF
abbrev Lj1 :cW:=eF (fun F f=>match f with|170=>cD F|139=>cD F|_=>fun _=>none) (by
 intro f;dsimp only;split;exact jR;exact jS;exact cX)
def eK :EC:=fun F=>fun
 |[.agg [.s 1 b,.s 1 x]]=>some (fun _=>Lm b x,[.one (.s 1 (F.ifL b x))])
 |_=>none
theorem xf :ec 294 eK:=by
 intro _ _ _ h hp;dsimp only[eK,F0]at h;split at h<;>cases h
 rename_i b x;have hbw:=hp.bw;have hxw:=hp.xw;have hbl:=hp.bl;have hxl:=hp.xl;refine cb Lj1 Tryz.func294 ?_
 intro O r F hO hr hF;cbv
 repeat' first|apply By|(apply bD<;>intro hb<;>cbv)|(refine⟨[1,3,15,16,17],[1,3],Int×aa,fun s_=>match s_ with|(i,o)=>[.reg 17 (.j i),.reg 3 (.one (.vw 3 0 0 0 (O.ln o))),.leaf 3 0 ⟨0,0,none,.own (.s 1 o)⟩],fun s_=>match s_ with|(i,o)=>0<=i/\i<=(b.length:Int)/\QN b i o,fun s_=>match s_ with|(i,o)=>b.length-i.toNat,⟨(0,[]),?_,?_⟩,?_⟩;rotate_left;(focus (cbv;done));intro s_ hi;obtain⟨i,o⟩:=s_;replace hi:0<=i/\i<=(b.length:Int)/\QN b i o:=hi;obtain⟨i0,i1,i2⟩:=hi;cbv)|(refine⟨[1,3,15,16,17,21,22,23],[1,3],Int×aa,fun s_=>match s_ with|(k,o1)=>[.reg 23 (.j k),.reg 3 (.one (.vw 3 0 0 0 (O.ln o1))),.leaf 3 0 ⟨0,0,none,.own (.s 1 o1)⟩],fun s_=>match s_ with|(k,o1)=>0<=k/\k<=((ap b i 0).length:Int)/\QO b i k o1,fun s_=>match s_ with|(k,o1)=>(ap b i 0).length-k.toNat,⟨(0,o),?_,?_⟩,?_⟩;rotate_left;(focus (cbv;done));intro s_ hk;obtain⟨k,o1⟩:=s_;replace hk:0<=k/\k<=((ap b i 0).length:Int)/\QO b i k o1:=hk;obtain⟨k0,k1,k2⟩:=hk;cbv)|(refine⟨[3,35,36,37],[3],Int×aa,fun s_=>match s_ with|(j,o2)=>[.reg 37 (.j j),.reg 3 (.one (.vw 3 0 0 0 (O.ln o2))),.leaf 3 0 ⟨0,0,none,.own (.s 1 o2)⟩],fun s_=>match s_ with|(j,o2)=>0<=j/\j<=(x.length:Int)/\QP b x j o2,fun s_=>match s_ with|(j,o2)=>x.length-j.toNat,⟨(0,o),?_,?_⟩,?_⟩;rotate_left;(focus (cbv;done));intro s_ hj;obtain⟨j,o2⟩:=s_;replace hj:0<=j/\j<=(x.length:Int)/\QP b x j o2:=hj;obtain⟨j0,j1,j2⟩:=hj;cbv)|(refine ab (O.ar .add .i64 k 1,O.cat o1 (O.sub [[.i (O.gi (O.gs b i 0) k 1)]] 0 (O.ln [[.i (O.gi (O.gs b i 0) k 1)]]))) ?_ ?_ ?_;focus (cbv;done))|(refine ab (O.ar .add .i64 i 1,o1) ?_ ?_ ?_;focus (cbv;done))|(refine ab (O.ar .add .i64 j 1,O.cat o2 (O.gs x j 0)) ?_ ?_ ?_;focus (cbv;done))
 all_goals(subst hO hr hF;(try simp only[nc]at*);(try simp only[ah,SS,sa,az]at*);(try rw[di (by omega) (by omega)]))
 all_goals exact aaE
theorem x9 :ec 276 eK:=by
 intro _ _ _ h hp;dsimp only[eK,F0]at h;split at h<;>cases h
 rename_i b x;have hbw:=hp.bw;have hxw:=hp.xw;have hbl:=hp.bl;have hxl:=hp.xl;refine cb Lj1 Tryz.func276 ?_
 intro O r F hO hr hF;cbv
 repeat' first|apply By|(apply bD<;>intro hb<;>cbv)|(refine⟨[1,3,4],[1,3],Int×aa,fun s_=>match s_ with|(i,o)=>[.reg 4 (.j i),.reg 3 (.one (.vw 3 0 0 0 (O.ln o))),.leaf 3 0 ⟨0,0,none,.own (.s 1 o)⟩],fun s_=>match s_ with|(i,o)=>0<=i/\i<=(b.length:Int)/\QN b i o,fun s_=>match s_ with|(i,o)=>b.length-i.toNat,⟨(0,[]),?_,?_⟩,?_⟩;rotate_left;(focus (cbv;done));intro s_ hi;obtain⟨i,o⟩:=s_;replace hi:0<=i/\i<=(b.length:Int)/\QN b i o:=hi;obtain⟨i0,i1,i2⟩:=hi;cbv)|(refine⟨[1,3,4,5],[1,3],Int×aa,fun s_=>match s_ with|(k,o1)=>[.reg 5 (.j k),.reg 3 (.one (.vw 3 0 0 0 (O.ln o1))),.leaf 3 0 ⟨0,0,none,.own (.s 1 o1)⟩],fun s_=>match s_ with|(k,o1)=>0<=k/\k<=((ap b i 0).length:Int)/\QO b i k o1,fun s_=>match s_ with|(k,o1)=>(ap b i 0).length-k.toNat,⟨(0,o),?_,?_⟩,?_⟩;rotate_left;(focus (cbv;done));intro s_ hk;obtain⟨k,o1⟩:=s_;replace hk:0<=k/\k<=((ap b i 0).length:Int)/\QO b i k o1:=hk;obtain⟨k0,k1,k2⟩:=hk;cbv)|(refine⟨[1,3,6],[1,3],Int×aa,fun s_=>match s_ with|(j,o2)=>[.reg 6 (.j j),.reg 3 (.one (.vw 3 0 0 0 (O.ln o2))),.leaf 3 0 ⟨0,0,none,.own (.s 1 o2)⟩],fun s_=>match s_ with|(j,o2)=>0<=j/\j<=(x.length:Int)/\QP b x j o2,fun s_=>match s_ with|(j,o2)=>x.length-j.toNat,⟨(0,o),?_,?_⟩,?_⟩;rotate_left;(focus (cbv;done));intro s_ hj;obtain⟨j,o2⟩:=s_;replace hj:0<=j/\j<=(x.length:Int)/\QP b x j o2:=hj;obtain⟨j0,j1,j2⟩:=hj;cbv)|(refine ab (O.ar .add .i64 k 1,O.cat o1 (O.sub [[.i (O.gi (O.gs b i 0) k 1)]] 0 (O.ln [[.i (O.gi (O.gs b i 0) k 1)]]))) ?_ ?_ ?_;focus (cbv;done))|(refine ab (O.ar .add .i64 i 1,o1) ?_ ?_ ?_;focus (cbv;done))|(refine ab (O.ar .add .i64 j 1,O.cat o2 (O.gs x j 0)) ?_ ?_ ?_;focus (cbv;done))
 all_goals(subst hO hr hF;(try simp only[nc]at*);(try simp only[ah,SS,sa,az]at*);(try rw[di (by omega) (by omega)]);(try have z9:bR .add .i64 j 1=j+1:=bE (by omega));(try have z8:bR .add .i64 i 1=i+1:=bE (by omega));(try simp only[z9]at*);(try simp only[z8]at*))
 all_goals exact aaE
end Go.V