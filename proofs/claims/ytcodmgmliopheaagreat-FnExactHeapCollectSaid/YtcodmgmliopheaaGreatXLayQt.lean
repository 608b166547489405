/- Contracts. -/
import Derived.Test.YtcodmgmliopheaaGreatXLayPt
import Derived.Test.YtcodmgmliopheaaGreatXKerBt
set_option linter.all false
open Go
open And renaming intro->By
namespace Go.V
open Go Go.Proofs
set_option maxRecDepth 1000000
set_option maxHeartbeats 8000000
def om :EC:=fun F=>fun
 |[.agg [.v (.int .i64 k),.v (.int .i64 m),.s 1 cs,.v (.int .i64 ph),.v (.int .i64 nx)]]=>some (fun _=>True,[.k (F.jobZ k m cs ph nx)])
 |_=>none
theorem Ct :ec 144 om:=by
 intro _ _ _ h hp;dsimp only[om,F0]at h;split at h<;>cases h
 rename_i k m cs ph nx;refine cb nB Tryz.func144 ?_
 intro O r F hO hr hF;cbv
 repeat' first|apply By|(apply bD<;>intro hb<;>cbv)
 all_goals(subst hO hr hF;(try simp only[nc]at*);(try simp only[ah,SS,sa,az]at*))
 all_goals first|(show(_:List DV)=_;refine ai ?_;unfold jobZ;simp[*,cmp_eq];done)|(show(_:List DV)=_;refine ai ?_;unfold jobZ;rw[decide_eq_true (p:=cs.length=0) (by omega),cmp_eq];simp[*];done)|(show(_:List DV)=_;refine ai ?_;unfold jobZ;rw[decide_eq_false (p:=cs.length=0) (by omega)];simp;done)|done
abbrev Qa1 :cW:=eF (fun F f=>match f with|166=>dj F|167=>cN F|168=>cR F|169=>mg F|170=>cD F|171=>d5 F|172=>cL F|173=>fV F|174=>jz F|175=>nT F|91=>aj F|176=>gO F|177=>dF F|_=>fun _=>none) (by
 intro f;dsimp only;split;exact pN;exact pQ;exact pP;exact zf;exact jR;exact rZ;exact lN;exact B7;exact vk;exact B8;exact bu;exact D4;exact B5;exact cX)
def ff :EC:=fun F=>fun
 |[.agg hl_]=>hL hl_ fun a0 a1 a2 a3 a4 a5 a6 a7 a8 a9 aA aB aC aD aE aF aG aH aI aJ aK aL aM aN=>(fun _=>HpN a0 a1 a2 a4 a5 a6 a7 a8 a9 aA aB aD aL,[.k (F.hpI a0 a1 a2 a3 a4 a5 a6 a7 a8 a9 aA aB aC aD aE aF aG aH aI aJ aK aL aM aN)])
 |_=>none
theorem rY :ec 55 ff:=by
 intro _ _ _ h hp;dsimp only[ff,F0,hL]at h;split at h;rotate_left;cases h;split at h<;>cases h
 rename_i a0 a1 a2 a3 a4 a5 a6 a7 a8 a9 aA aB aC aD aE aF aG aH aI aJ aK aL aM aN;have N:=hp.n;have hcc:=N.c;have hcw:=N.cw;have hel:=hp.el;have hfl:=hp.fl;have hsl:=N.sl;have hcl:=N.cl;have hlc:=av (es:=a9);refine cb Qa1 Tryz.func55 ?_
 intro O r F hO hr hF;cbv
 repeat' first|apply By|(apply bD<;>intro hb<;>cbv)|(refine⟨[1,57,58,59],[1],Int,fun i=>[.reg 59 (.j i)],fun i=>0<=i/\i<=((a9.length:Nat):Int)/\upto (Rb a9) i,fun i=>(a9.length)-i.toNat,⟨0,?_,?_⟩,?_⟩;rotate_left;(focus (cbv;done));intro i hi;replace hi:0<=i/\i<=((a9.length:Nat):Int)/\upto (Rb a9) i:=hi;obtain⟨i0,i1,i2⟩:=hi;cbv)|(refine ab (O.ar .add .i64 i 1) ?_ ?_ ?_;focus (cbv;done))
 all_goals(subst hO hr hF;(try simp only[nc]at*);(try simp only[ah,SS,sa,az]at*);(try rw[di (by omega) (by omega)]))
 all_goals first
  | (show(_:List DV)=_
     first
      |(refine ai ?_;symm;exact XZ (by assumption))
      |(refine ai ?_;symm;exact X5 (by assumption))
      |(refine ai ?_;symm;exact X0 (by assumption))
      |(refine ai ?_;symm;exact UI (by assumption))
      |(refine ai ?_;symm;exact X1 (by assumption))
      |(refine ai ?_;symm;exact RZ (by assumption))
      |(refine ai ?_;symm;exact X4 (by assumption))
      |(refine ai ?_;symm;exact RV i0 (by assumption) (by assumption))
      |(refine ai ?_;symm;exact UH (by assumption))
      |(refine ai ?_;symm;exact UG (by assumption))
      |(refine ai ?_;symm;exact X6 (by assumption))
      |(refine ai ?_;symm;exact X8 (by assumption))
      |(refine ai ?_;symm;exact X9 (by assumption))
      |(refine ai ?_;symm;exact Ya (by assumption))
      |(refine ai ?_;rw[MA (by assumption) (by assumption) (by assumption) (by assumption) (by assumption) (decide_eq_true (by omega)) (by assumption) (bN i2 (by omega)) (by assumption) (by assumption) (by assumption) (by assumption) (by assumption) (by assumption)];subst_vars;first|exact R2 (by assumption)|exact R3 (by assumption)|exact R4 (by assumption) (by assumption)|exact rfl|((try rw[cmp_eq]);unfold AX jobZ;simp[*];done))
      |done)
  |omega
  |exact gp
  |exact⟨hp.c,hp.u,hp.e,hp.r⟩
  |exact⟨by omega,by omega,hp.f,by omega⟩
  |exact⟨N.sw,N.lw,N.sl,N.ll⟩
  |exact⟨N,by assumption,hp.e,by omega,hp.f,by omega⟩
  |exact N.m
  |exact⟨N.qw,N.ql⟩
  |exact hcc.n i i0 (by assumption)
  |exact⟨N,by assumption⟩
  |exact⟨hp.j,by have:=hp.jl;omega⟩
  |exact⟨N.sw,by omega⟩
  |exact bM
  |exact bj i2 (by assumption)
  |done
abbrev Qa2 :cW:=eF (fun F f=>match f with|134=>dj F|135=>cN F|136=>cR F|137=>k9 F|138=>jJ F|139=>cD F|140=>d5 F|141=>cL F|142=>fV F|143=>mH F|89=>aj F|145=>gO F|146=>dF F|144=>om F|_=>fun _=>none) (by
 intro f;dsimp only;split;exact pW;exact kw;exact kv;exact yh;exact vH;exact jS;exact sj;exact lT;exact Ad;exact Ae;exact bC;exact Ea;exact jT;exact Ct;exact cX)
theorem Cp :ec 42 ff:=by
 intro _ _ _ h hp;dsimp only[ff,F0,hL]at h;split at h;rotate_left;cases h;split at h<;>cases h
 rename_i a0 a1 a2 a3 a4 a5 a6 a7 a8 a9 aA aB aC aD aE aF aG aH aI aJ aK aL aM aN;have N:=hp.n;have hcc:=N.c;have hcw:=N.cw;have hqw:=N.qw;have hql:=N.ql;have hel:=hp.el;have hfl:=hp.fl;have hsl:=N.sl;have hcl:=N.cl;have hlc:=av (es:=a9);refine cb Qa2 Tryz.func42 ?_
 intro O r F hO hr hF;cbv
 repeat' first|apply By|(apply bD<;>intro hb<;>cbv)|(refine⟨[1,3],[1],Int,fun q=>[.reg 3 (.j q)],fun q=>0<=q/\q<=(aD.length:Int)/\upto (sA aD aF) q,fun q=>aD.length-q.toNat,⟨0,?_,?_⟩,?_⟩;rotate_left;(focus (cbv;done));intro q hq;replace hq:0<=q/\q<=(aD.length:Int)/\upto (sA aD aF) q:=hq;obtain⟨q0,q1,q2⟩:=hq;cbv)|(refine⟨[1,4],[1],Int,fun i=>[.reg 4 (.j i)],fun i=>0<=i/\i<=(a9.length:Int)/\upto (Rb a9) i,fun i=>a9.length-i.toNat,⟨0,?_,?_⟩,?_⟩;rotate_left;(focus (cbv;done));intro i hi;replace hi:0<=i/\i<=(a9.length:Int)/\upto (Rb a9) i:=hi;obtain⟨i0,i1,i2⟩:=hi;cbv)|(refine ab (O.ar .add .i64 i 1) ?_ ?_ ?_;focus (cbv;done))|(refine ab (O.ar .add .i64 q 1) ?_ ?_ ?_;focus (cbv;done))
 all_goals(subst hO hr hF;(try simp only[nc]at*);(try simp only[ah,SS,sa,az]at*);(try rw[di (by omega) (by omega)]))
 all_goals first
  | (show(_:List DV)=_
     first
      |(refine ai ?_;symm;exact XZ (by assumption))
      |(refine ai ?_;symm;exact X5 (by assumption))
      |(refine ai ?_;symm;exact X0 (by assumption))
      |(refine ai ?_;symm;exact X3 (by assumption) (by assumption))
      |(refine ai ?_;symm;exact X2 (by assumption) (by assumption))
      |(refine ai ?_;symm;exact X1 (by assumption))
      |(refine ai ?_;symm;exact RZ (by assumption))
      |(refine ai ?_;symm;exact X4 (by assumption))
      |(refine ai ?_;symm;exact X7 q0 (by assumption) (by assumption) (by assumption))
      |(refine ai ?_;symm;exact RV i0 (by assumption) (by assumption))
      |(refine ai ?_;symm;exact UH (by assumption))
      |(refine ai ?_;symm;exact XW (by assumption) (by assumption) (by assumption))
      |(refine ai ?_;symm;exact X6 (by assumption))
      |(refine ai ?_;symm;exact X8 (by assumption))
      |(refine ai ?_;symm;exact X9 (by assumption))
      |(refine ai ?_;symm;exact Ya (by assumption))
      |(refine ai ?_;rw[MA (by assumption) (by assumption) (by assumption) (ab4 (by assumption) (by assumption) (by assumption)) (by assumption) (decide_eq_true (by omega)) (by assumption) (bN i2 (by omega)) (by assumption) (abI (by assumption) (by assumption) (by assumption) (by omega) q2) (by assumption) (by assumption) (by assumption) (by assumption)];subst_vars;first|exact R2 (by assumption)|exact R3 (by assumption)|exact R4 (by assumption) (by assumption)|exact rfl|((try rw[cmp_eq]);unfold AX jobZ;simp[*];done))
      |done)
  |omega
  |exact gp
  |(show aP _ _=true;kernel_rfl)
  |exact⟨hp.c,hp.u,hp.e,hp.r⟩
  |exact⟨by omega,by omega,hp.f,by omega⟩
  |exact⟨N.sw,N.lw,N.sl,N.ll⟩
  |exact⟨N,by assumption,hp.e,by omega,hp.f,by omega⟩
  |exact⟨N,hp.e,by omega⟩
  |exact N.m
  |exact⟨N.qw,N.ql⟩
  |exact hcc.n i i0 (by assumption)
  |exact⟨N,by assumption⟩
  |exact⟨hp.j,by have:=hp.jl;omega⟩
  |exact⟨N.sw,by omega⟩
  |exact bM
  |exact bj i2 (by assumption)
  |exact bj q2 (acF (by assumption))
  |done
end Go.V