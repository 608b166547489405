/- Contracts. -/
import Derived.Test.YtcodmgmliopheaaGreatXFnt
set_option linter.all false
open Go
open And renaming intro->By
namespace Go.V
open Go Go.Proofs
set_option maxRecDepth 1000000
set_option maxHeartbeats 8000000
def aj :EC:=fun F=>fun
 |[.one (.v (.int .i64 x)),.one (.v (.int .i64 a)),.one (.v (.int .i64 b))]=>some (fun _=>True,[.k (F.inR x a b)])
 |_=>none
theorem bu :ec 91 aj:=by
 intro _ _ _ h hp;dsimp only[aj,F0]at h;split at h<;>cases h
 rename_i x a b;refine cb nB Tryz.func91 ?_
 intro O r F hO hr hF;cbv
 repeat' first|apply By|(apply bD<;>intro hb<;>cbv)
 all_goals(subst hO hr hF;(try simp only[nc]at*);(try simp only[ah,SS,sa,az]at*))
 all_goals refine ai ?_
 ·exact gY (by rw[bP];simp only[SS];omega)
 ·exact(AR.2 (by omega)).symm
theorem bC :ec 89 aj:=by
 intro _ _ _ h hp;dsimp only[aj,F0]at h;split at h<;>cases h
 rename_i x a b;refine cb nB Tryz.func89 ?_
 intro O r F hO hr hF;cbv
 repeat' first|apply By|(apply bD<;>intro hb<;>cbv)
 all_goals(subst hO hr hF;(try simp only[nc]at*);(try simp only[ah,SS,sa,az]at*))
 all_goals refine ai ?_
 ·exact gY (by rw[bP];simp only[SS];omega)
 ·exact(AR.2 (by omega)).symm
abbrev F4 :cW:=eF (fun F f=>match f with|91=>aj F|89=>aj F|_=>fun _=>none) (by
 intro f;dsimp only;split;exact bu;exact bC;exact cX)
def dJ :EC:=fun F=>fun
 |[.one (.v (.int .i64 k))]=>some (fun _=>True,[.k (F.inR k 0 3)])
 |_=>none
theorem fm :ec 245 dJ:=by
 intro _ _ _ h hp;dsimp only[dJ,F0]at h;split at h<;>cases h
 rename_i k;refine cb F4 Tryz.func245 ?_
 exact yw
abbrev F5 :cW:=eF (fun F f=>match f with|245=>dJ F|89=>aj F|_=>fun _=>none) (by
 intro f;dsimp only;split;exact fm;exact bC;exact cX)
def bF :EC:=fun F=>fun
 |[.one (.v (.int .i64 k))]=>some (fun _=>True,[.j (F.clsSz k)])
 |_=>none
theorem du :ec 114 bF:=by
 intro _ _ _ h hp;dsimp only[bF,F0]at h;split at h<;>cases h
 rename_i k;refine cb F5 Tryz.func114 ?_
 intro O r F hO hr hF;cbv
 repeat' first|apply By|(apply bD<;>intro hb<;>cbv)
 all_goals(subst hO hr hF;(try simp only[nc]at*);(try simp only[ah,SS,sa,az]at*))
 all_goals exact abc
theorem fo :ec 236 bF:=by
 intro _ _ _ h hp;dsimp only[bF,F0]at h;split at h<;>cases h
 rename_i k;refine cb F5 Tryz.func236 ?_
 intro O r F hO hr hF;cbv
 repeat' first|apply By|(apply bD<;>intro hb<;>cbv)
 all_goals(subst hO hr hF;(try simp only[nc]at*);(try simp only[ah,SS,sa,az]at*);(try rw[Rj (by assumption)]at*))
 all_goals exact abc
abbrev F6 :cW:=eF (fun F f=>match f with|91=>aj F|89=>aj F|114=>bF F|_=>fun _=>none) (by
 intro f;dsimp only;split;exact bu;exact bC;exact du;exact cX)
def dG :EC:=fun F=>fun
 |[.one (.v (.int .i64 s))]=>some (fun _=>True,[.j (F.clsOf s)])
 |_=>none
theorem qv :ec 107 dG:=by
 intro _ _ _ h hp;dsimp only[dG,F0]at h;split at h<;>cases h
 rename_i s;refine cb F6 Tryz.func107 ?_
 intro O r F hO hr hF;cbv
 repeat' first|apply By|(apply bD<;>intro hb<;>cbv)|(refine⟨[0,3],[],Int,fun k=>[.reg 3 (.j k)],fun k=>0<=k/\k<=3/\(k=0\/clsSz (k-1)<s),fun k=>(3-k).toNat,⟨0,?_,?_⟩,?_⟩;rotate_left;(focus (cbv;done));intro k hk;replace hk:0<=k/\k<=3/\(k=0\/clsSz (k-1)<s):=hk;obtain⟨k0,k1,k2⟩:=hk;cbv)|(refine ab (O.ar .add .i64 k 1) ?_ ?_ ?_;focus (cbv;done))
 all_goals(subst hO hr hF;(try simp only[nc]at*);(try simp only[ah,SS,sa,az]at*))
 all_goals exact aaV
theorem qE :ec 232 dG:=by
 intro _ _ _ h hp;dsimp only[dG,F0]at h;split at h<;>cases h
 rename_i s;refine cb F6 Tryz.func232 ?_
 intro O r F hO hr hF;cbv
 repeat' first|apply By|(apply bD<;>intro hb<;>cbv)|(refine⟨[0,3],[],Int,fun k=>[.reg 3 (.j k)],fun k=>0<=k/\k<=3/\(k=0\/clsSz (k-1)<s),fun k=>(3-k).toNat,⟨0,?_,?_⟩,?_⟩;rotate_left;(focus (cbv;done));intro k hk;replace hk:0<=k/\k<=3/\(k=0\/clsSz (k-1)<s):=hk;obtain⟨k0,k1,k2⟩:=hk;cbv)|(refine ab (O.ar .add .i64 k 1) ?_ ?_ ?_;focus (cbv;done))
 all_goals(subst hO hr hF;(try simp only[nc]at*);(try simp only[ah,SS,sa,az]at*);(try rw[Rj (k:=k) (by rw[bP];omega)]at*);(try rw[Rh (k:=k) (by rw[bP];omega)]at*))
 all_goals exact aaV
abbrev W1 :cW:=eF (fun F f=>match f with|107=>dG F|114=>bF F|232=>dG F|236=>bF F|_=>fun _=>none) (by
 intro f;dsimp only;split;exact qv;exact du;exact qE;exact fo;exact cX)
def md :EC:=fun F=>fun
 |[.agg [.v (.int .i64 d0),.v (.int .i64 d1),.v (.int .i64 d2),.v (.int .i64 d3)],.ptr [.v (.int .i64 ad)]]=>some (fun _=>True,[.k (F.eqB d1 ad)])
 |_=>none
theorem y9 :ec 240 md:=by
 intro _ _ _ h hp;dsimp only[md,F0]at h;split at h<;>cases h
 rename_i d0 d1 d2 d3 ad;refine cb nB Tryz.func240 ?_
 intro O r F hO hr hF;cbv
 repeat' first|apply By|(apply bD<;>intro hb<;>cbv)
 all_goals(subst hO hr hF;(try simp only[nc]at*);(try simp only[ah,SS,sa,az]at*))
 all_goals first
  | (show(_:List DV)=_
     first
      |exact ai (Ay (by assumption)).symm
      |exact ai (CX (by assumption)).symm
      |exact ai (gY (by unfold eqB;simp only[SS,decide_eq_true_eq]))
      |done)
  |trivial
  |trace_state
def kz :EC:=fun F=>fun
 |[.agg [.v (.int .i64 d0),.v (.int .i64 d1),.v (.int .i64 d2)],.ptr [.v (.int .i64 pg)]]=>some (fun _=>True,[.k (F.eqB d0 pg)])
 |_=>none
theorem xo :ec 297 kz:=by
 intro _ _ _ h hp;dsimp only[kz,F0]at h;split at h<;>cases h
 rename_i d0 d1 d2 pg;refine cb nB Tryz.func297 ?_
 intro O r F hO hr hF;cbv
 repeat' first|apply By|(apply bD<;>intro hb<;>cbv)
 all_goals(subst hO hr hF;(try simp only[nc]at*);(try simp only[ah,SS,sa,az]at*))
 all_goals first
  | (show(_:List DV)=_
     first
      |exact ai (gY (by unfold eqB;simp only[SS,decide_eq_true_eq]))
      |done)
  |trace_state
abbrev W3 :cW:=eF (fun F f=>match f with|240=>md F|297=>kz F|_=>fun _=>none) (by
 intro f;dsimp only;split;exact y9;exact xo;exact cX)
def bh :EC:=fun F=>fun
 |[.one (.s 4 os),.fn 240 [[.v (.int .i64 id)]]]=>some (fun _=>Rw [tI,tI,tI,tI] os/\os.length<=1099511627776,[.j (F.obI os id)])
 |_=>none
theorem cz :ec 239 bh:=by
 intro _ _ _ h hp;dsimp only[bh,F0]at h;split at h<;>cases h
 rename_i os id;obtain⟨hw,hn⟩:=hp;refine cb W3 Tryz.func239 ?_
 intro O r F hO hr hF;cbv
 repeat' first|apply By|(apply bD<;>intro hb<;>cbv)|(refine⟨[0,1,7,8],[0],Int,fun i=>[.reg 8 (.j i)],fun i=>0<=i/\i<=((os.length:Nat):Int)/\upto (dt (HV os id)) i,fun i=>(os.length)-i.toNat,⟨0,?_,?_⟩,?_⟩;rotate_left;(focus (cbv;done));intro i hi;replace hi:0<=i/\i<=((os.length:Nat):Int)/\upto (dt (HV os id)) i:=hi;obtain⟨i0,i1,i2⟩:=hi;cbv)|(refine ab (O.ar .add .i64 i 1) ?_ ?_ ?_;focus (cbv;done))
 all_goals(subst hO hr hF;(try simp only[nc]at*);(try simp only[ah,SS,sa,az]at*);(try rw[di (by omega) (by omega)]))
 all_goals first
  | (show(_:List DV)=_
     first
      |exact dZ (fF i2 i0 (by assumption) (show HV os id i=true from by assumption)).symm
      |exact dZ (fF i2 i0 (by assumption) (show HV os id i=true from Ay (by assumption))).symm
      |exact dZ (gB i2 (by assumption)).symm
      |done)
  |omega
  |exact gp
  |(show(lk _ _).isSome=true;kernel_rfl)
  |exact bM
  |exact bj i2 (oD (show HV os id i=false from by assumption))
  |exact bj i2 (oD (show HV os id i=false from CX (by assumption)))
  |exact⟨trivial,trivial⟩
  |trivial
  |trace_state
def bc :EC:=fun F=>fun
 |[.one (.s 3 os),.fn 297 [[.v (.int .i64 id)]]]=>some (fun _=>Rw [tI,tI,tI] os/\os.length<=1099511627776,[.j (F.spI os id)])
 |_=>none
theorem cq :ec 296 bc:=by
 intro _ _ _ h hp;dsimp only[bc,F0]at h;split at h<;>cases h
 rename_i os id;obtain⟨hw,hn⟩:=hp;refine cb W3 Tryz.func296 ?_
 intro O r F hO hr hF;cbv
 repeat' first|apply By|(apply bD<;>intro hb<;>cbv)|(refine⟨[0,1,7,8],[0],Int,fun i=>[.reg 8 (.j i)],fun i=>0<=i/\i<=((os.length:Nat):Int)/\upto (dt (isSp os id)) i,fun i=>(os.length)-i.toNat,⟨0,?_,?_⟩,?_⟩;rotate_left;(focus (cbv;done));intro i hi;replace hi:0<=i/\i<=((os.length:Nat):Int)/\upto (dt (isSp os id)) i:=hi;obtain⟨i0,i1,i2⟩:=hi;cbv)|(refine ab (O.ar .add .i64 i 1) ?_ ?_ ?_;focus (cbv;done))
 all_goals(subst hO hr hF;(try simp only[nc]at*);(try simp only[ah,SS,sa,az]at*);(try rw[di (by omega) (by omega)]))
 all_goals first
  | (show(_:List DV)=_
     first
      |exact dZ (fF i2 i0 (by assumption) (show isSp os id i=true from by assumption)).symm
      |exact dZ (gB i2 (by assumption)).symm
      |done)
  |omega
  |exact gp
  |(show(lk _ _).isSome=true;kernel_rfl)
  |exact bM
  |exact bj i2 (oD (show isSp os id i=false from by assumption))
  |trace_state
abbrev W4 :cW:=eF (fun F f=>match f with|239=>bh F|296=>bc F|_=>fun _=>none) (by
 intro f;dsimp only;split;exact cz;exact cq;exact cX)
def dF :EC:=fun F=>fun
 |[.agg hl_,.one (.v (.int .i64 pg))]=>hL hl_ fun a0 a1 a2 a3 a4 a5 a6 a7 a8 a9 aA aB aC aD aE aF aG aH aI aJ aK aL aM aN=>(fun _=>Rw [tI,tI,tI] a6/\a6.length<=1099511627776,[.j (F.spI a6 pg)])
 |_=>none
theorem B5 :ec 177 dF:=by
 intro _ _ _ h hp;dsimp only[dF,F0,hL]at h;split at h;rotate_left;cases h;split at h<;>cases h
 rename_i pg _ a0 a1 a2 a3 a4 a5 a6 a7 a8 a9 aA aB aC aD aE aF aG aH aI aJ aK aL aM aN;refine cb W4 Tryz.func177 ?_
 intro O r F hO hr hF;cbv
 repeat' first|apply By|(apply bD<;>intro hb<;>cbv)
 all_goals(subst hO hr hF;(try simp only[nc]at*);(try simp only[ah,SS,sa,az]at*))
 all_goals first|exact hp|exact rfl|trace_state
theorem jT :ec 146 dF:=by
 intro _ _ _ h hp;dsimp only[dF,F0,hL]at h;split at h;rotate_left;cases h;split at h<;>cases h
 rename_i pg _ a0 a1 a2 a3 a4 a5 a6 a7 a8 a9 aA aB aC aD aE aF aG aH aI aJ aK aL aM aN;obtain⟨hw,hn⟩:=hp;refine cb nB Tryz.func146 ?_
 intro O r F hO hr hF;cbv
 repeat' first|apply By|(apply bD<;>intro hb<;>cbv)|(refine⟨[1,2,5],[2],Int,fun i=>[.reg 5 (.j i)],fun i=>0<=i/\i<=((a6.length:Nat):Int)/\upto (dt (isSp a6 pg)) i,fun i=>(a6.length)-i.toNat,⟨0,?_,?_⟩,?_⟩;rotate_left;(focus (cbv;done));intro i hi;replace hi:0<=i/\i<=((a6.length:Nat):Int)/\upto (dt (isSp a6 pg)) i:=hi;obtain⟨i0,i1,i2⟩:=hi;cbv)|(refine ab (O.ar .add .i64 i 1) ?_ ?_ ?_;focus (cbv;done))
 all_goals(subst hO hr hF;(try simp only[nc]at*);(try simp only[ah,SS,sa,az]at*);(try rw[di (by omega) (by omega)]))
 all_goals first
  | (show(_:List DV)=_
     first
      |exact dZ (fF i2 i0 (by assumption) (show isSp a6 pg i=true from Ay (by assumption))).symm
      |exact dZ (gB i2 (by assumption)).symm
      |done)
  |omega
  |exact gp
  |exact bM
  |exact bj i2 (oD (show isSp a6 pg i=false from CX (by assumption)))
  |trace_state
end Go.V