/- Contracts. -/
import Derived.Test.YtcodmgmliopheaaGreatXM1
set_option linter.all false
open Go
open And renaming intro->By
open List renaming length_take->acX
open True renaming intro->ac2
namespace Go.V
open Go Go.Proofs
set_option maxRecDepth 1000000
set_option maxHeartbeats 8000000
abbrev Ma0 :cW:=eF (fun F f=>match f with|91=>aj F|89=>aj F|_=>fun _=>none) (by
 intro f;dsimp only;split;exact bu;exact bC;exact cX)
def da :EC:=fun F=>fun
 |[.one (.v (.int .i64 n)),.agg [.v (.int .i64 a),.v (.int .i64 l)]]=>some (fun _=>0<=n/\n<=1099511627776,[.k (F.rngIn n a l)])
 |_=>none
theorem qD :ec 285 da:=by
 intro _ _ _ h hp;dsimp only[da,F0]at h;split at h<;>cases h
 rename_i n a l;refine cb Ma0 Tryz.func285 ?_
 exact aaU
theorem pa :ec 264 da:=by
 intro _ _ _ h hp;dsimp only[da,F0]at h;split at h<;>cases h
 rename_i n a l;refine cb Ma0 Tryz.func264 ?_
 exact aaU
abbrev Ma1 :cW:=eF (fun F f=>match f with|91=>aj F|89=>aj F|285=>da F|264=>da F|_=>fun _=>none) (by
 intro f;dsimp only;split;exact bu;exact bC;exact qD;exact pa;exact cX)
def cN :EC:=fun F=>fun
 |[.one (.v (.int .i64 n)),.one (.s 2 rs)]=>some (fun _=>0<=n/\n<=1099511627776/\Rw [tI,tI] rs/\rs.length<=1099511627776,[.k (F.rgOk n rs)])
 |_=>none
theorem pQ :ec 167 cN:=by
 intro _ _ _ h hp;dsimp only[cN,F0]at h;split at h<;>cases h
 rename_i n rs;obtain⟨n0,n1,hw,hl⟩:=hp;refine cb Ma1 Tryz.func167 ?_
 intro O r F hO hr hF;cbv
 repeat' first|apply By|(apply bD<;>intro hb<;>cbv)|(refine⟨[0,1,7,8,9],[],Int,fun i=>[.reg 9 (.j i)],fun i=>0<=i/\i<=((rs.length:Nat):Int)/\upto (vX n rs) i,fun i=>(rs.length)-i.toNat,⟨0,?_,?_⟩,?_⟩;rotate_left;(focus (cbv;done));intro i hi;replace hi:0<=i/\i<=((rs.length:Nat):Int)/\upto (vX n rs) i:=hi;obtain⟨i0,i1,i2⟩:=hi;cbv)|(refine ab (O.ar .add .i64 i 1) ?_ ?_ ?_;focus (cbv;done))
 all_goals exact aaG
theorem kw :ec 135 cN:=by
 intro _ _ _ h hp;dsimp only[cN,F0]at h;split at h<;>cases h
 rename_i n rs;obtain⟨n0,n1,hw,hl⟩:=hp;refine cb Ma1 Tryz.func135 ?_
 intro O r F hO hr hF;cbv
 repeat' first|apply By|(apply bD<;>intro hb<;>cbv)|(refine⟨[0,1,5],[],Int,fun i=>[.reg 5 (.j i)],fun i=>0<=i/\i<=((rs.length:Nat):Int)/\upto (vX n rs) i,fun i=>(rs.length)-i.toNat,⟨0,?_,?_⟩,?_⟩;rotate_left;(focus (cbv;done));intro i hi;replace hi:0<=i/\i<=((rs.length:Nat):Int)/\upto (vX n rs) i:=hi;obtain⟨i0,i1,i2⟩:=hi;cbv)|(refine ab (O.ar .add .i64 i 1) ?_ ?_ ?_;focus (cbv;done))
 all_goals exact aaG
def iL :EC:=fun F=>fun
 |[.agg [.v (.int .i64 a),.v (.int .i64 l)],.ptr [.v (.int .i64 p)]]=>some (fun _=>True,[.k (F.rh1 a l p)])
 |_=>none
theorem tq :ec 383 iL:=by
 intro _ _ _ h hp;dsimp only[iL,F0]at h;split at h<;>cases h
 rename_i a l p;refine cb nB Tryz.func383 ?_
 intro O r F hO hr hF;cbv
 repeat' first|apply By|(apply bD<;>intro hb<;>cbv)
 all_goals(subst hO hr hF;(try simp only[nc]at*);(try simp only[ah,SS,sa,az]at*))
 all_goals first|(show(_:List DV)=_;refine ai ?_;unfold rh1;rw[decide_eq_true hb];rfl)|(show(_:List DV)=_;refine ai ?_;unfold rh1;rw[decide_eq_false (by omega)];rfl)|done
abbrev Ma3 :cW:=eF (fun F f=>match f with|383=>iL F|_=>fun _=>none) (by
 intro f;dsimp only;split;exact tq;exact cX)
def aX :EC:=fun F=>fun
 |[.one (.s 2 os),.fn 383 [[.v (.int .i64 id)]]]=>some (fun _=>Rw [tI,tI] os/\os.length<=1099511627776,[.j (F.rhI os id)])
 |_=>none
theorem ce :ec 419 aX:=by
 intro _ _ _ h hp;dsimp only[aX,F0]at h;split at h<;>cases h
 rename_i os id;obtain⟨hw,hn⟩:=hp;refine cb Ma3 Tryz.func419 ?_
 intro O r F hO hr hF;cbv
 repeat' first|apply By|(apply bD<;>intro hb<;>cbv)|(refine⟨[0,1,7,8],[0],Int,fun i=>[.reg 8 (.j i)],fun i=>0<=i/\i<=((os.length:Nat):Int)/\upto (dt (uk os id)) i,fun i=>(os.length)-i.toNat,⟨0,?_,?_⟩,?_⟩;rotate_left;(focus (cbv;done));intro i hi;replace hi:0<=i/\i<=((os.length:Nat):Int)/\upto (dt (uk os id)) i:=hi;obtain⟨i0,i1,i2⟩:=hi;cbv)|(refine ab (O.ar .add .i64 i 1) ?_ ?_ ?_;focus (cbv;done))
 all_goals(subst hO hr hF;(try simp only[nc]at*);(try simp only[ah,SS,sa,az]at*);(try rw[di (by omega) (by omega)]))
 all_goals first
  | (show(_:List DV)=_
     first
      |exact dZ (fF i2 i0 (by assumption) (show uk os id i=true from by assumption)).symm
      |exact dZ (gB i2 (by assumption)).symm
      |done)
  |omega
  |exact gp
  |(show(lk _ _).isSome=true;kernel_rfl)
  |exact bM
  |exact bj i2 (oD (show uk os id i=false from by assumption))
  |done
abbrev Ma4 :cW:=eF (fun F f=>match f with|419=>aX F|_=>fun _=>none) (by
 intro f;dsimp only;split;exact ce;exact cX)
def aU :EC:=fun F=>fun
 |[.one (.s 2 os),.fn 383 [[.v (.int .i64 id)]]]=>some (fun _=>Rw [tI,tI] os/\os.length<=1099511627776,[.k (F.rhB os id)])
 |_=>none
theorem b9 :ec 382 aU:=by
 intro _ _ _ h hp;dsimp only[aU,F0]at h;split at h<;>cases h
 rename_i os id;refine cb Ma4 Tryz.func382 ?_
 intro O r F hO hr hF;cbv
 repeat' first|apply By|(apply bD<;>intro hb<;>cbv)
 all_goals(subst hO hr hF;(try simp only[nc]at*);(try simp only[ah,SS,sa,az]at*))
 all_goals first
  | (show(_:List DV)=_
     first
      |exact ai (gY (by unfold rhB;simp only[SS,decide_eq_true_eq]))
      |done)
  |exact hp
  |done
abbrev Ma5 :cW:=eF (fun F f=>match f with|382=>aU F|_=>fun _=>none) (by
 intro f;dsimp only;split;exact b9;exact cX)
def eN :EC:=fun F=>fun
 |[.one (.s 2 os),.one (.v (.int .i64 id))]=>some (fun _=>Rw [tI,tI] os/\os.length<=1099511627776,[.k (F.rhB os id)])
 |_=>none
theorem xi :ec 290 eN:=by
 intro _ _ _ h hp;dsimp only[eN,F0]at h;split at h<;>cases h
 rename_i os id;refine cb Ma5 Tryz.func290 ?_
 exact aba
theorem yc :ec 269 eN:=by
 intro _ _ _ h hp;dsimp only[eN,F0]at h;split at h<;>cases h
 rename_i os id;obtain⟨hw,hn⟩:=hp;refine cb nB Tryz.func269 ?_
 intro O r F hO hr hF;cbv
 repeat' first|apply By|(apply bD<;>intro hb<;>cbv)|(refine⟨[0,1,5],[],Int,fun i=>[.reg 5 (.j i)],fun i=>0<=i/\i<=((os.length:Nat):Int)/\upto (dt (uk os id)) i,fun i=>(os.length)-i.toNat,⟨0,?_,?_⟩,?_⟩;rotate_left;(focus (cbv;done));intro i hi;replace hi:0<=i/\i<=((os.length:Nat):Int)/\upto (dt (uk os id)) i:=hi;obtain⟨i0,i1,i2⟩:=hi;cbv)|(refine ab (O.ar .add .i64 i 1) ?_ ?_ ?_;focus (cbv;done))
 all_goals(subst hO hr hF;(try simp only[nc]at*);(try simp only[ah,SS,sa,az]at*);(try rw[di (by omega) (by omega)]))
 all_goals first
  | (show(_:List DV)=_
     first
      |(refine ai ?_;symm;exact VL i2 i0 (by assumption) (by assumption) (by assumption))
      |(refine ai ?_;symm;exact ZS i2 (by omega))
      |done)
  |omega
  |exact gp
  |(show aP _ _=true;kernel_rfl)
  |exact bM
  |exact bj i2 (ZQ (by omega))
  |exact bj i2 (ZR (by omega))
  |done
abbrev Ma6 :cW:=eF (fun F f=>match f with|287=>bY F|265=>bY F|_=>fun _=>none) (by
 intro f;dsimp only;split;exact gZ;exact hD;exact cX)
def eL :EC:=fun F=>fun
 |[.agg [.v (.int .i64 p1),.v (.int .i64 k1),.v (.int .i64 b1)],.agg [.v (.int .i64 p2),.v (.int .i64 k2),.v (.int .i64 b2)]]=>some (fun _=>True,[.k (F.mshB p1 k1 b1 p2 k2 b2)])
 |_=>none
theorem xg :ec 209 eL:=by
 intro _ _ _ h hp;dsimp only[eL,F0]at h;split at h<;>cases h
 rename_i p1 k1 b1 p2 k2 b2;refine cb Ma6 Tryz.func209 ?_
 exact aaZ
theorem ya :ec 270 eL:=by
 intro _ _ _ h hp;dsimp only[eL,F0]at h;split at h<;>cases h
 rename_i p1 k1 b1 p2 k2 b2;refine cb Ma6 Tryz.func270 ?_
 exact aaZ
abbrev Ma7 :cW:=eF (fun F f=>match f with|114=>bF F|236=>bF F|_=>fun _=>none) (by
 intro f;dsimp only;split;exact du;exact fo;exact cX)
def eh :EC:=fun F=>fun
 |[.one (.s 3 qs)]=>some (fun _=>Rw [tI,tI,tI] qs/\qs.length<=1073741824,[.j (F.qcI qs)])
 |_=>none
theorem vm :ec 247 eh:=by
 intro _ _ _ h hp;dsimp only[eh,F0]at h;split at h<;>cases h
 rename_i qs;obtain⟨hw,hl⟩:=hp;refine cb Ma7 Tryz.func247 ?_
 intro O r F hO hr hF;cbv
 repeat' first|apply By|(apply bD<;>intro hb<;>cbv)|(refine⟨[3,6,7,8],[],Int×Int,fun s_=>match s_ with|(i,t)=>[.reg 8 (.j i),.reg 3 (.j t)],fun s_=>match s_ with|(i,t)=>0<=i/\i<=(qs.length:Int)/\O0 qs i t,fun s_=>match s_ with|(i,t)=>qs.length-i.toNat,⟨(0,0),?_,?_⟩,?_⟩;rotate_left;(focus (cbv;done));intro s_ hi;obtain⟨i,t⟩:=s_;replace hi:0<=i/\i<=(qs.length:Int)/\O0 qs i t:=hi;obtain⟨i0,i1,i2⟩:=hi;cbv)|(refine ab (O.ar .add .i64 i 1,O.ar .add .i64 t (F.clsSz (O.gi qs i 1))) ?_ ?_ ?_;focus (cbv;done))
 all_goals exact aaT
theorem yg :ec 273 eh:=by
 intro _ _ _ h hp;dsimp only[eh,F0]at h;split at h<;>cases h
 rename_i qs;obtain⟨hw,hl⟩:=hp;refine cb Ma7 Tryz.func273 ?_
 intro O r F hO hr hF;cbv
 repeat' first|apply By|(apply bD<;>intro hb<;>cbv)|(refine⟨[0,3,4],[],Int×Int,fun s_=>match s_ with|(i,t)=>[.reg 4 (.j i),.reg 3 (.j t)],fun s_=>match s_ with|(i,t)=>0<=i/\i<=(qs.length:Int)/\O0 qs i t,fun s_=>match s_ with|(i,t)=>qs.length-i.toNat,⟨(0,0),?_,?_⟩,?_⟩;rotate_left;(focus (cbv;done));intro s_ hi;obtain⟨i,t⟩:=s_;replace hi:0<=i/\i<=(qs.length:Int)/\O0 qs i t:=hi;obtain⟨i0,i1,i2⟩:=hi;cbv)|(refine ab (O.ar .add .i64 i 1,O.ar .add .i64 t (F.clsSz (O.gi qs i 1))) ?_ ?_ ?_;focus (cbv;done))
 all_goals exact aaT
abbrev Ma8 :cW:=eF (fun F f=>match f with|245=>dJ F|344=>hY F|89=>aj F|_=>fun _=>none) (by
 intro f;dsimp only;split;exact fm;exact pT;exact bC;exact cX)
def mh :EC:=fun F=>fun
 |[.one (.s 3 b),.agg [.v (.int .i64 a),.v (.int .i64 c),.v (.int .i64 s)]]=>some (fun _=>Rw [tI,tI,tI] b/\b.length<=1073741824,[.k (F.stlOk b a c s)])
 |_=>none
theorem zk :ec 246 mh:=by
 intro _ _ _ h hp;dsimp only[mh,F0]at h;split at h<;>cases h
 rename_i b a c s;obtain⟨hw,hl⟩:=hp;have hs:bR .sub .i64 (b.length:Int) 1=b.length-1:=dD (by omega);refine cb Ma8 Tryz.func246 ?_
 intro O r F hO hr hF;cbv
 repeat' first|apply By|(apply bD<;>intro hb<;>cbv)
 all_goals(subst hO hr hF;(try simp only[nc]at*);(try simp only[ah,SS,sa,az]at*);(try simp only[hs]at*))
 all_goals first|exact gp|(show aP _ _=true;kernel_rfl)|exact⟨hw,by omega⟩|(show(_:List DV)=_;refine ai ?_;unfold stlOk;simp[*,dx];done)|(show(_:List DV)=_;refine ai ?_;unfold stlOk;rw[decide_eq_false (p:=0<=a) (by omega)];simp;done)|(show(_:List DV)=_;refine ai ?_;unfold stlOk;rw[decide_eq_false (p:=0<=s) (by omega)];simp;done)|(show(_:List DV)=_;refine ai ?_;unfold stlOk;rw[decide_eq_false (p:=b.length=0) (by omega)];simp[*,dx];done)|(show(_:List DV)=_;refine ai ?_;unfold stlOk;simp_all;done)|done
def oj :EC:=fun F=>fun
 |[.agg [.v (.int .i64 a),.v (.int .i64 c),.v (.int .i64 s)]]=>some (fun _=>True,[.k (F.staB a c s)])
 |_=>none
theorem Cs :ec 271 oj:=by
 intro _ _ _ h hp;dsimp only[oj,F0]at h;split at h<;>cases h
 rename_i a c s;refine cb Ma8 Tryz.func271 ?_
 intro O r F hO hr hF;cbv
 repeat' first|apply By|(apply bD<;>intro hb<;>cbv)
 all_goals(subst hO hr hF;(try simp only[nc]at*);(try simp only[ah,SS,sa,az]at*))
 all_goals first|(show(_:List DV)=_;refine ai ?_;unfold staB;simp[*,dx];done)|(show(_:List DV)=_;refine ai ?_;unfold staB;rw[decide_eq_false (p:=0<=a) (by omega)];simp;done)|done
abbrev Ma9 :cW:=eF (fun F f=>match f with|91=>aj F|246=>mh F|247=>eh F|89=>aj F|271=>oj F|272=>mE F|273=>eh F|_=>fun _=>none) (by
 intro f;dsimp only;split;exact bu;exact zk;exact vm;exact bC;exact Cs;exact zS;exact yg;exact cX)
def d5 :EC:=fun F=>fun
 |[.agg [.v (.int .i64 rm),.s 3 qs]]=>some (fun _=>Rw [tI,tI,tI] qs/\qs.length<=1073741824,[.k (F.quarOk rm qs)])
 |_=>none
theorem rZ :ec 171 d5:=by
 intro _ _ _ h hp;dsimp only[d5,F0]at h;split at h<;>cases h
 rename_i rm qs;obtain⟨hw,hl⟩:=hp;refine cb Ma9 Tryz.func171 ?_
 intro O r F hO hr hF;cbv
 repeat' first|apply By|(apply bD<;>intro hb<;>cbv)|(refine⟨[1,6,7,8],[1],Int,fun i=>[.reg 8 (.j i)],fun i=>0<=i/\i<=((qs.length:Nat):Int)/\upto (FD qs) i,fun i=>(qs.length)-i.toNat,⟨0,?_,?_⟩,?_⟩;rotate_left;(focus (cbv;done));intro i hi;replace hi:0<=i/\i<=((qs.length:Nat):Int)/\upto (FD qs) i:=hi;obtain⟨i0,i1,i2⟩:=hi;cbv)|(refine ab (O.ar .add .i64 i 1) ?_ ?_ ?_;focus (cbv;done))
 all_goals(subst hO hr hF;(try simp only[nc]at*);(try simp only[ah,SS,sa,az]at*);(try rw[di (by omega) (by omega)]);(try simp only[Bu]at*))
 all_goals first
  | (show(_:List DV)=_
     first
      |(refine ai ?_;symm;exact J6 i0 (by assumption) (by assumption))
      |(refine ai ?_;rw[NQ i2 (by omega)];simp[*,dx];done)
      |done)
  |omega
  |exact gp
  |(show aP _ _=true;kernel_rfl)
  |exact⟨hw,hl⟩
  |exact⟨Rw.take hw _,by rw[acX];omega⟩
  |exact bM
  |exact bj i2 (by assumption)
  |done
theorem sj :ec 140 d5:=by
 intro _ _ _ h hp;dsimp only[d5,F0]at h;split at h<;>cases h
 rename_i rm qs;obtain⟨hw,hl⟩:=hp;refine cb Ma9 Tryz.func140 ?_
 intro O r F hO hr hF;cbv
 repeat' first|apply By|(apply bD<;>intro hb<;>cbv)|(refine⟨[1,3],[1],Int,fun i=>[.reg 3 (.j i)],fun i=>0<=i/\i<=((qs.length:Nat):Int)/\upto (FD qs) i,fun i=>(qs.length)-i.toNat,⟨0,?_,?_⟩,?_⟩;rotate_left;(focus (cbv;done));intro i hi;replace hi:0<=i/\i<=((qs.length:Nat):Int)/\upto (FD qs) i:=hi;obtain⟨i0,i1,i2⟩:=hi;cbv)|(refine ab (O.ar .add .i64 i 1) ?_ ?_ ?_;focus (cbv;done))
 all_goals(subst hO hr hF;(try simp only[nc]at*);(try simp only[ah,SS,sa,az]at*);(try rw[di (by omega) (by omega)]);(try simp only[Bu]at*);(try have z:=CF i0 (by omega));(try simp only[z]at*))
 all_goals first
  | (show(_:List DV)=_
     first
      |(refine ai ?_;symm;exact J6 i0 (by assumption) (Zy (by assumption)))
      |(refine ai ?_;symm;exact J6 i0 (by assumption) (Zz (by omega) (by assumption) (by assumption)))
      |(refine ai ?_;symm;exact J6 i0 (by assumption) (ZA (by assumption)))
      |(refine ai ?_;rw[NQ i2 (by omega)];simp[*,dx];done)
      |(have q:false=true:=(by assumption);cases q)
      |done)
  |omega
  |exact gp
  |(show aP _ _=true;kernel_rfl)
  |exact⟨hw,hl⟩
  |exact⟨Rw.take hw _,by rw[acX];omega⟩
  |exact bM
  |exact bj i2 (ZB (by assumption) (by assumption) i0 (by omega))
  |exact bj i2 (ZC (by assumption) (by assumption) (by omega) (by assumption) (by assumption))
  |done
def nS :EC:=fun F=>fun
 |[.one (.v (.int .i64 c))]=>some (fun _=>True,[.k (F.inR c 0 15)])
 |_=>none
theorem B6 :ec 316 nS:=by
 intro _ _ _ h hp;dsimp only[nS,F0]at h;split at h<;>cases h
 rename_i c;refine cb Ma0 Tryz.func316 ?_
 exact Wa
def nT :EC:=fun F=>fun
 |[.one (.v (.int .i64 c))]=>some (fun _=>True,[.k (F.inR c 0 1073741823)])
 |_=>none
theorem B8 :ec 175 nT:=by
 intro _ _ _ h hp;dsimp only[nT,F0]at h;split at h<;>cases h
 rename_i c;refine cb Ma0 Tryz.func175 ?_
 exact Wa
abbrev Mb1 :cW:=eF (fun F f=>match f with|91=>aj F|316=>nS F|89=>aj F|_=>fun _=>none) (by
 intro f;dsimp only;split;exact bu;exact B6;exact bC;exact cX)
def fU :EC:=fun F=>fun
 |[.agg [.v (.int .i64 k),.v (.int .i64 m),.s 1 cs]]=>some (fun _=>Rw [tI] cs/\cs.length<=1099511627776,[.k (F.plOk k m cs)])
 |_=>none
theorem B3 :ec 211 fU:=by
 intro _ _ _ h hp;dsimp only[fU,F0]at h;split at h<;>cases h
 rename_i k m cs;obtain⟨hw,hl⟩:=hp;refine cb Mb1 Tryz.func211 ?_
 intro O r F hO hr hF;cbv
 repeat' first|apply By|(apply bD<;>intro hb<;>cbv)|(refine⟨[1,6,7,8],[1],Int,fun i=>[.reg 8 (.j i)],fun i=>0<=i/\i<=((cs.length:Nat):Int)/\upto (Le cs) i,fun i=>(cs.length)-i.toNat,⟨0,?_,?_⟩,?_⟩;rotate_left;(focus (cbv;done));intro i hi;replace hi:0<=i/\i<=((cs.length:Nat):Int)/\upto (Le cs) i:=hi;obtain⟨i0,i1,i2⟩:=hi;cbv)|(refine ab (O.ar .add .i64 i 1) ?_ ?_ ?_;focus (cbv;done))
 all_goals(subst hO hr hF;(try simp only[nc]at*);(try simp only[ah,SS,sa,az]at*);(try rw[di (by omega) (by omega)]);(try have z:=CF i0 (by omega));(try simp only[z]at*))
 all_goals first
  | (show(_:List DV)=_
     first
      |(refine ai ?_;symm;exact NL i0 (by assumption) (by assumption))
      |(refine ai ?_;symm;exact NM i0 (by assumption) (by omega) (by assumption))
      |(refine ai ?_;rw[E4 i2 (by omega)];simp[*,dx];done)
      |(refine ai ?_;rw[E4 i2 (by omega),Eg];simp[*];done)
      |(have q:false=true:=(by assumption);cases q)
      |done)
  |omega
  |exact gp
  |exact bM
  |exact bj i2 (J1 (by assumption) (by omega))
  |exact bj i2 (J2 (by assumption) (by assumption))
  |done
theorem Cq :ec 278 fU:=by
 intro _ _ _ h hp;dsimp only[fU,F0]at h;split at h<;>cases h
 rename_i k m cs;obtain⟨hw,hl⟩:=hp;refine cb Mb1 Tryz.func278 ?_
 intro O r F hO hr hF;cbv
 repeat' first|apply By|(apply bD<;>intro hb<;>cbv)|(refine⟨[1,3],[1],Int,fun i=>[.reg 3 (.j i)],fun i=>0<=i/\i<=((cs.length:Nat):Int)/\upto (Le cs) i,fun i=>(cs.length)-i.toNat,⟨0,?_,?_⟩,?_⟩;rotate_left;(focus (cbv;done));intro i hi;replace hi:0<=i/\i<=((cs.length:Nat):Int)/\upto (Le cs) i:=hi;obtain⟨i0,i1,i2⟩:=hi;cbv)|(refine ab (O.ar .add .i64 i 1) ?_ ?_ ?_;focus (cbv;done))
 all_goals(subst hO hr hF;(try simp only[nc]at*);(try simp only[ah,SS,sa,az]at*);(try rw[di (by omega) (by omega)]);(try have z:=CF i0 (by omega));(try simp only[z]at*))
 all_goals first
  | (show(_:List DV)=_
     first
      |(refine ai ?_;symm;exact NL i0 (by assumption) (by assumption))
      |(refine ai ?_;symm;exact NM i0 (by assumption) (by omega) (by assumption))
      |(refine ai ?_;rw[E4 i2 (by omega)];simp[*,dx];done)
      |(refine ai ?_;rw[E4 i2 (by omega),Eg];simp[*];done)
      |(have q:false=true:=(by assumption);cases q)
      |done)
  |omega
  |exact gp
  |(show aP _ _=true;kernel_rfl)
  |exact bM
  |exact bj i2 (J1 (by assumption) (by omega))
  |exact bj i2 (J2 (by assumption) (by assumption))
  |done
abbrev Mb2 :cW:=eF (fun F f=>match f with|211=>fU F|91=>aj F|278=>fU F|89=>aj F|_=>fun _=>none) (by
 intro f;dsimp only;split;exact B3;exact bu;exact Cq;exact bC;exact cX)
def gO :EC:=fun F=>fun
 |[.agg [.v (.int .i64 k),.v (.int .i64 m),.s 1 cs,.v (.int .i64 ph),.v (.int .i64 nx)]]=>some (fun _=>Rw [tI] cs/\cs.length<=1099511627776,[.k (F.jbOk k m cs ph nx)])
 |_=>none
theorem D4 :ec 176 gO:=by
 intro _ _ _ h hp;dsimp only[gO,F0]at h;split at h<;>cases h
 rename_i k m cs ph nx;refine cb Mb2 Tryz.func176 ?_
 exact aa8
theorem Ea :ec 145 gO:=by
 intro _ _ _ h hp;dsimp only[gO,F0]at h;split at h<;>cases h
 rename_i k m cs ph nx;refine cb Mb2 Tryz.func145 ?_
 exact aa8
abbrev Mb3 :cW:=eF (fun F f=>match f with|245=>dJ F|91=>aj F|114=>bF F|89=>aj F|236=>bF F|266=>fY F|_=>fun _=>none) (by
 intro f;dsimp only;split;exact fm;exact bu;exact du;exact bC;exact fo;exact jU;exact cX)
def cL :EC:=fun F=>fun
 |[.agg [.s 1 ls]]=>some (fun _=>TC ls,[.k (F.caOk ls)])
 |_=>none
theorem lT :ec 141 cL:=by
 intro _ _ _ h hp;dsimp only[cL,F0]at h;split at h<;>cases h
 rename_i ls;have hw:=hp.w;have hl:=hp.l;have hn:=hp.n;refine cb Mb3 Tryz.func141 ?_
 intro O r F hO hr hF;cbv
 repeat' first|apply By|(apply bD<;>intro hb<;>cbv)|(refine⟨[1,3,4],[1,3],Int×aa,fun s_=>match s_ with|(i,o)=>[.reg 4 (.j i),.reg 3 (.one (.vw 3 0 0 0 (O.ln o))),.leaf 3 0 ⟨0,0,none,.own (.s 1 o)⟩],fun s_=>match s_ with|(i,o)=>0<=i/\i<=4/\WR ls i o,fun s_=>match s_ with|(i,o)=>(4-i).toNat,⟨(0,[]),?_,?_⟩,?_⟩;rotate_left;(focus (cbv;done));intro s_ hi;obtain⟨i,o⟩:=s_;replace hi:0<=i/\i<=4/\WR ls i o:=hi;obtain⟨i0,i1,i2⟩:=hi;cbv)|(refine⟨[1,3,4,5],[1,3],Int×aa,fun s_=>match s_ with|(k,o1)=>[.reg 5 (.j k),.reg 3 (.one (.vw 3 0 0 0 (O.ln o1))),.leaf 3 0 ⟨0,0,none,.own (.s 1 o1)⟩],fun s_=>match s_ with|(k,o1)=>0<=k/\k<=((ap ls i 0).length:Int)/\QZ ls i k o1,fun s_=>match s_ with|(k,o1)=>(ap ls i 0).length-k.toNat,⟨(0,o),?_,?_⟩,?_⟩;rotate_left;(focus (cbv;done));intro s_ hk;obtain⟨k,o1⟩:=s_;replace hk:0<=k/\k<=((ap ls i 0).length:Int)/\QZ ls i k o1:=hk;obtain⟨k0,k1,k2⟩:=hk;cbv)|(refine ab (O.ar .add .i64 k 1,O.cat o1 (O.sub [[.i (O.gi (O.gs ls i 0) k 0)]] 0 (O.ln [[.i (O.gi (O.gs ls i 0) k 0)]]))) ?_ ?_ ?_;focus (cbv;done))|(refine ab (O.ar .add .i64 i 1,o1) ?_ ?_ ?_;focus (cbv;done))
 all_goals(subst hO hr hF;(try simp only[nc]at*);(try simp only[ah,SS,sa,az]at*);(try rw[di (by omega) (by omega)]);(try have z6:bR .add .i64 k 1=k+1:=bE (by have:=hn i;omega));(try simp only[z6]at*);(try have w1:=VW k2 k0);(try have w2:=hp.el i0 (by omega));(try have w3:=w2.1))
 all_goals first
  | (show(_:List DV)=_
     first
      |(refine ai ?_;symm;exact Ec (by assumption))
      |(refine ai ?_;symm;exact LL i0 (by omega) (by omega))
      |(refine ai ?_;symm;exact Ed i0 (by omega) k0 (by assumption) (Q8 (by assumption)))
      |(refine ai ?_;symm;exact Ed i0 (by omega) k0 (by assumption) (Q9 (by assumption)))
      |(refine ai ?_;symm;exact VV k2 i0 k0 (by assumption) (by assumption))
      |(refine ai ?_;symm;exact LM i2.p (by omega) (by omega))
      |done)
  |omega
  |exact gp
  |exact w1.2
  |(constructor<;>(simp only[List.length_cons,List.length_nil];omega))
  |(have c:=(ma (bP.2 (by omega:0<=i/\i<=3))).1;omega)
  |exact aad k2 k0 (by assumption) (by assumption) (by assumption)
  |exact aab k2 i0 k1 (by omega)
  |exact acH i2 i0 (by omega) (by omega)
  |exact acG
  |exact⟨ac2,ac2⟩
  |done
theorem lN :ec 172 cL:=by
 intro _ _ _ h hp;dsimp only[cL,F0]at h;split at h<;>cases h
 rename_i ls;have hw:=hp.w;have hl:=hp.l;have hn:=hp.n;refine cb Mb3 Tryz.func172 ?_
 intro O r F hO hr hF;cbv
 repeat' first|apply By|(apply bD<;>intro hb<;>cbv)|(refine⟨[1,3,10,11,12],[1,8],Int×aa,fun s_=>match s_ with|(i,es)=>[.reg 12 (.j i),.leaf 8 0 ⟨0,0,none,.own (.m true es)⟩],fun s_=>match s_ with|(i,es)=>0<=i/\i<=(ls.length:Int)/\Hm ls i es,fun s_=>match s_ with|(i,es)=>ls.length-i.toNat,⟨(0,[]),?_,?_⟩,?_⟩;rotate_left;(focus (cbv;done));intro s_ hi;obtain⟨i,es⟩:=s_;replace hi:0<=i/\i<=(ls.length:Int)/\Hm ls i es:=hi;obtain⟨i0,i1,i2⟩:=hi;cbv)|(refine⟨[1,3,4,10,11,12,25,26,27],[1,8],Int×aa,fun s_=>match s_ with|(k,es1)=>[.reg 27 (.j k),.leaf 8 0 ⟨0,0,none,.own (.m true es1)⟩],fun s_=>match s_ with|(k,es1)=>0<=k/\k<=((ap ls i 0).length:Int)/\Hn ls i k es1,fun s_=>match s_ with|(k,es1)=>(ap ls i 0).length-k.toNat,⟨(0,es),?_,?_⟩,?_⟩;rotate_left;(focus (cbv;done));intro s_ hk;obtain⟨k,es1⟩:=s_;replace hk:0<=k/\k<=((ap ls i 0).length:Int)/\Hn ls i k es1:=hk;obtain⟨k0,k1,k2⟩:=hk;cbv)|(refine ab (O.ar .add .i64 k 1,O.mu es1 (O.gi (O.gs ls i 0) k 0) (.v (.bool true))) ?_ ?_ ?_;focus (cbv;done))|(refine ab (O.ar .add .i64 i 1,es1) ?_ ?_ ?_;focus (cbv;done))
 all_goals(subst hO hr hF;(try simp only[nc]at*);(try simp only[ah,SS,sa,az]at*);(try rw[di (by omega) (by omega)]);(try have z6:bR .add .i64 k 1=k+1:=bE (by have:=hn i;omega));(try simp only[z6]at*);(try have w2:=hp.el i0 (by omega));(try have w3:=w2.1);(try have w4:=k2.p.l))
 all_goals first
  | (show(_:List DV)=_
     first
      |(refine ai ?_;exact TY i2.p i1 (by omega))
      |(refine ai ?_;symm;exact PN i2 i0 (by omega) (by assumption))
      |(refine ai ?_;symm;exact PO i2 i0 (by assumption) (by assumption))
      |(refine ai ?_;symm;exact Ed i0 (by omega) k0 (by assumption) (Q8 (by assumption)))
      |(refine ai ?_;symm;exact Ed i0 (by omega) k0 (by assumption) (Q9 (by assumption)))
      |(refine ai ?_;symm;exact PP k2 i0 k0 (by assumption) (by assumption))
      |done)
  |omega
  |exact gp
  |(have c:=(ma (bP.2 (by omega:0<=i/\i<=3))).1;omega)
  |exact UR k2 k0 (by assumption) (by assumption) (by assumption)
  |exact UQ k2 i0 k1 (by omega)
  |exact Yn i2 i0 (by assumption) (by omega)
  |exact Ym
  |done
end Go.V