/- Contracts. -/
import Derived.Test.YtpldpilhgjpkjaaGreatYM2
import Derived.Test.YtpldpilhgjpkjaaGreatYM1
set_option linter.all false
open Go
open And renaming intro->Zd
open IntKind renaming i64->Za
open List renaming length_take->Zg
namespace Go.V
open Go Go.Proofs
set_option maxRecDepth 1000000
set_option maxHeartbeats 8000000
abbrev Ma0:dr:=dW (fun F f=>match f with|33=>ax F|_=>fun _=>none) (by
 intro f;dsimp only;split;exact aT;exact dD)
def hE:EC:=fun F=>fun
 |[.one (.v (.int Za n)),.agg [.v (.int Za a),.v (.int Za l)]]=>some (fun _=>0<=n/\n<=1099511627776,[.k (F.rngIn n a l)])
 |_=>none
theorem nP:ec 165 hE:=by
 intro _ _ _ h hp;dsimp only[hE,F0]at h;split at h<;>cases h
 rename_i n a l;refine cb Ma0 Tryz.func165 ?_
 intro O r F hO hr hF;cbv
 repeat' first|apply Zd|(apply cS<;>intro hb<;>cbv)
 all_goals(subst hO hr hF;(try simp only[nc]at*);(try simp only[am,SS,sa,az]at*);(try have t:=bi.1 hb);(try have z:bO .sub Za n l=n-l:=f9 (by omega));(try simp only[z]at*))
 all_goals first|(show(_:List DV)=_;refine au ?_;unfold rngIn;simp[hb];done)|done
abbrev Ma1:dr:=dW (fun F f=>match f with|33=>ax F|165=>hE F|_=>fun _=>none) (by
 intro f;dsimp only;split;exact aT;exact nP;exact dD)
def eG:EC:=fun F=>fun
 |[.one (.v (.int Za n)),.one (.s 2 rs)]=>some (fun _=>0<=n/\n<=1099511627776/\Rw [tI,tI] rs/\rs.length<=1099511627776,[.k (F.rgOk n rs)])
 |_=>none
theorem jq:ec 61 eG:=by
 intro _ _ _ h hp;dsimp only[eG,F0]at h;split at h<;>cases h
 rename_i n rs;obtain⟨n0,n1,hw,hl⟩:=hp;refine cb Ma1 Tryz.func61 ?_
 intro O r F hO hr hF;cbv
 repeat' first|apply Zd|(apply cS<;>intro hb<;>cbv)|(refine⟨[0,1,7,8,9],[],Int,fun i=>[.reg 9 (.j i)],fun i=>0<=i/\i<=((rs.length:Nat):Int)/\upto (vY n rs) i,fun i=>(rs.length)-i.toNat,⟨0,?_,?_⟩,?_⟩;rotate_left;(focus (cbv;done));intro i hi;replace hi:0<=i/\i<=((rs.length:Nat):Int)/\upto (vY n rs) i:=hi;obtain⟨i0,i1,i2⟩:=hi;cbv)|(refine ah (O.ar .add Za i 1) ?_ ?_ ?_;focus (cbv;done))
 all_goals(subst hO hr hF;(try simp only[nc]at*);(try simp only[am,SS,sa,az]at*);(try rw[dq (by omega) (by omega)]);(try have z:=IU i0 (by omega));(try simp only[z]at*))
 all_goals first
  | (show(_:List DV)=_
     first
      |(refine au ?_;symm;exact Qi i0 (by assumption) (by assumption))
      |(refine au ?_;symm;exact Qj i0 (by assumption) (by assumption) (by assumption))
      |(refine au ?_;exact Qh i2 (by omega))
      |(have q:false=true:=(by assumption);cases q)
      |done)
  |omega
  |exact fQ
  |(show aw _ _=true;kernel_rfl)
  |exact bV
  |exact bN i2 (Le (by assumption) (by omega))
  |exact bN i2 (Lf (by assumption) (by assumption))
  |done
def gT:EC:=fun F=>fun
 |[.agg [.v (.int Za a),.v (.int Za l)],.ptr [.v (.int Za p)]]=>some (fun _=>True,[.k (F.rh1 a l p)])
 |_=>none
theorem p7:ec 280 gT:=by
 intro _ _ _ h hp;dsimp only[gT,F0]at h;split at h<;>cases h
 rename_i a l p;refine cb nB Tryz.func280 ?_
 intro O r F hO hr hF;cbv
 repeat' first|apply Zd|(apply cS<;>intro hb<;>cbv)
 all_goals(subst hO hr hF;(try simp only[nc]at*);(try simp only[am,SS,sa,az]at*))
 all_goals first|(show(_:List DV)=_;refine au ?_;unfold rh1;rw[VI hb];rfl)|(show(_:List DV)=_;refine au ?_;unfold rh1;rw[VJ (by omega)];rfl)|done
abbrev Ma3:dr:=dW (fun F f=>match f with|280=>gT F|_=>fun _=>none) (by
 intro f;dsimp only;split;exact p7;exact dD)
def ba:EC:=fun F=>fun
 |[.one (.s 2 os),.fn 280 [[.v (.int Za id)]]]=>some (fun _=>Rw [tI,tI] os/\os.length<=1099511627776,[.j (F.rhI os id)])
 |_=>none
theorem ce:ec 341 ba:=by
 intro _ _ _ h hp;dsimp only[ba,F0]at h;split at h<;>cases h
 rename_i os id;obtain⟨hw,hn⟩:=hp;refine cb Ma3 Tryz.func341 ?_
 intro O r F hO hr hF;cbv
 repeat' first|apply Zd|(apply cS<;>intro hb<;>cbv)|(refine⟨[0,1,7,8],[0],Int,fun i=>[.reg 8 (.j i)],fun i=>0<=i/\i<=((os.length:Nat):Int)/\upto (cK (HB os id)) i,fun i=>(os.length)-i.toNat,⟨0,?_,?_⟩,?_⟩;rotate_left;(focus (cbv;done));intro i hi;replace hi:0<=i/\i<=((os.length:Nat):Int)/\upto (cK (HB os id)) i:=hi;obtain⟨i0,i1,i2⟩:=hi;cbv)|(refine ah (O.ar .add Za i 1) ?_ ?_ ?_;focus (cbv;done))
 all_goals(subst hO hr hF;(try simp only[nc]at*);(try simp only[am,SS,sa,az]at*);(try rw[dq (by omega) (by omega)]))
 all_goals first
  | (show(_:List DV)=_
     first
      |exact cB (du i2 i0 (by assumption) (show HB os id i=true from by assumption)).symm
      |exact cB (d7 i2 (by assumption)).symm
      |done)
  |omega
  |exact fQ
  |(show(lk _ _).isSome=true;kernel_rfl)
  |exact bV
  |exact bN i2 (ft (show HB os id i=false from by assumption))
  |done
abbrev Ma4:dr:=dW (fun F f=>match f with|341=>ba F|_=>fun _=>none) (by
 intro f;dsimp only;split;exact ce;exact dD)
def aV:EC:=fun F=>fun
 |[.one (.s 2 os),.fn 280 [[.v (.int Za id)]]]=>some (fun _=>Rw [tI,tI] os/\os.length<=1099511627776,[.k (F.rhB os id)])
 |_=>none
theorem bT:ec 279 aV:=by
 intro _ _ _ h hp;dsimp only[aV,F0]at h;split at h<;>cases h
 rename_i os id;refine cb Ma4 Tryz.func279 ?_
 intro O r F hO hr hF;cbv
 repeat' first|apply Zd|(apply cS<;>intro hb<;>cbv)
 all_goals(subst hO hr hF;(try simp only[nc]at*);(try simp only[am,SS,sa,az]at*))
 all_goals first
  | (show(_:List DV)=_
     first
      |exact au (m8 (by unfold rhB;simp only[SS,VK]))
      |done)
  |exact hp
  |done
abbrev Ma5:dr:=dW (fun F f=>match f with|279=>aV F|_=>fun _=>none) (by
 intro f;dsimp only;split;exact bT;exact dD)
def jC:EC:=fun F=>fun
 |[.one (.s 2 os),.one (.v (.int Za id))]=>some (fun _=>Rw [tI,tI] os/\os.length<=1099511627776,[.k (F.rhB os id)])
 |_=>none
theorem tH:ec 171 jC:=by
 intro _ _ _ h hp;dsimp only[jC,F0]at h;split at h<;>cases h
 rename_i os id;refine cb Ma5 Tryz.func171 ?_
 exact zq3
abbrev Ma6:dr:=dW (fun F f=>match f with|167=>dS F|_=>fun _=>none) (by
 intro f;dsimp only;split;exact fX;exact dD)
def jz:EC:=fun F=>fun
 |[.agg [.v (.int Za p1),.v (.int Za k1),.v (.int Za b1)],.agg [.v (.int Za p2),.v (.int Za k2),.v (.int Za b2)]]=>some (fun _=>True,[.k (F.mshB p1 k1 b1 p2 k2 b2)])
 |_=>none
theorem tF:ec 172 jz:=by
 intro _ _ _ h hp;dsimp only[jz,F0]at h;split at h<;>cases h
 rename_i p1 k1 b1 p2 k2 b2;refine cb Ma6 Tryz.func172 ?_
 intro O r F hO hr hF;cbv
 repeat' first|apply Zd|(apply cS<;>intro hb<;>cbv)
 all_goals(subst hO hr hF;(try simp only[nc]at*);(try simp only[am,SS,sa,az]at*))
 all_goals first|(show(_:List DV)=_;refine au ?_;unfold mshB;simp[*];done)|(show(_:List DV)=_;refine au ?_;unfold mshB;subst_vars;rw[cmp_eq];simp[*];done)|done
abbrev Ma7:dr:=dW (fun F f=>match f with|56=>cn F|_=>fun _=>none) (by
 intro f;dsimp only;split;exact cR;exact dD)
def fE:EC:=fun F=>fun
 |[.one (.s 3 qs)]=>some (fun _=>Rw [tI,tI,tI] qs/\qs.length<=1073741824,[.j (F.qcI qs)])
 |_=>none
theorem lQ:ec 160 fE:=by
 intro _ _ _ h hp;dsimp only[fE,F0]at h;split at h<;>cases h
 rename_i qs;obtain⟨hw,hl⟩:=hp;refine cb Ma7 Tryz.func160 ?_
 intro O r F hO hr hF;cbv
 repeat' first|apply Zd|(apply cS<;>intro hb<;>cbv)|(refine⟨[3,6,7,8],[],Int×Int,fun s_=>match s_ with|(i,t)=>[.reg 8 (.j i),.reg 3 (.j t)],fun s_=>match s_ with|(i,t)=>0<=i/\i<=(qs.length:Int)/\NB qs i t,fun s_=>match s_ with|(i,t)=>qs.length-i.toNat,⟨(0,0),?_,?_⟩,?_⟩;rotate_left;(focus (cbv;done));intro s_ hi;obtain⟨i,t⟩:=s_;replace hi:0<=i/\i<=(qs.length:Int)/\NB qs i t:=hi;obtain⟨i0,i1,i2⟩:=hi;cbv)|(refine ah (O.ar .add Za i 1,O.ar .add Za t (F.clsSz (O.gi qs i 1))) ?_ ?_ ?_;focus (cbv;done))
 all_goals(subst hO hr hF;(try simp only[nc]at*);(try simp only[am,SS,sa,az]at*);(try rw[dq (by omega) (by omega)]))
 all_goals first|(show(_:List DV)=_;exact cB (P8 i2 i1 (by omega)))|omega|exact fQ|exact aep|exact aa7 i2 i0 (by omega)|done
abbrev Ma8:dr:=dW (fun F f=>match f with|157=>de F|271=>gv F|_=>fun _=>none) (by
 intro f;dsimp only;split;exact d4;exact nu;exact dD)
def hH:EC:=fun F=>fun
 |[.one (.s 3 b),.agg [.v (.int Za a),.v (.int Za c),.v (.int Za s)]]=>some (fun _=>Rw [tI,tI,tI] b/\b.length<=1073741824,[.k (F.stlOk b a c s)])
 |_=>none
theorem nQ:ec 159 hH:=by
 intro _ _ _ h hp;dsimp only[hH,F0]at h;split at h<;>cases h
 rename_i b a c s;obtain⟨hw,hl⟩:=hp;have hs:bO .sub Za (b.length:Int) 1=b.length-1:=f9 (by omega);refine cb Ma8 Tryz.func159 ?_
 intro O r F hO hr hF;cbv
 repeat' first|apply Zd|(apply cS<;>intro hb<;>cbv)
 all_goals(subst hO hr hF;(try simp only[nc]at*);(try simp only[am,SS,sa,az]at*);(try simp only[hs]at*))
 all_goals first|exact fQ|(show aw _ _=true;kernel_rfl)|exact⟨hw,by omega⟩|(show(_:List DV)=_;refine au ?_;unfold stlOk;simp[*,cT];done)|(show(_:List DV)=_;refine au ?_;unfold stlOk;rw[VJ (p:=0<=a) (by omega)];simp;done)|(show(_:List DV)=_;refine au ?_;unfold stlOk;rw[VJ (p:=0<=s) (by omega)];simp;done)|(show(_:List DV)=_;refine au ?_;unfold stlOk;rw[VJ (p:=b.length=0) (by omega)];simp[*,cT];done)|(show(_:List DV)=_;refine au ?_;unfold stlOk;simp_all;done)|done
abbrev Ma9:dr:=dW (fun F f=>match f with|33=>ax F|159=>hH F|160=>fE F|16=>fk F|_=>fun _=>none) (by
 intro f;dsimp only;split;exact aT;exact nQ;exact lQ;exact j8;exact dD)
def iZ:EC:=fun F=>fun
 |[.agg [.v (.int Za rm),.s 3 qs]]=>some (fun _=>Rw [tI,tI,tI] qs/\qs.length<=1073741824,[.k (F.quarOk rm qs)])
 |_=>none
theorem pd:ec 65 iZ:=by
 intro _ _ _ h hp;dsimp only[iZ,F0]at h;split at h<;>cases h
 rename_i rm qs;obtain⟨hw,hl⟩:=hp;refine cb Ma9 Tryz.func65 ?_
 intro O r F hO hr hF;cbv
 repeat' first|apply Zd|(apply cS<;>intro hb<;>cbv)|(refine⟨[1,6,7,8],[1],Int,fun i=>[.reg 8 (.j i)],fun i=>0<=i/\i<=((qs.length:Nat):Int)/\upto (Qc qs) i,fun i=>(qs.length)-i.toNat,⟨0,?_,?_⟩,?_⟩;rotate_left;(focus (cbv;done));intro i hi;replace hi:0<=i/\i<=((qs.length:Nat):Int)/\upto (Qc qs) i:=hi;obtain⟨i0,i1,i2⟩:=hi;cbv)|(refine ah (O.ar .add Za i 1) ?_ ?_ ?_;focus (cbv;done))
 all_goals(subst hO hr hF;(try simp only[nc]at*);(try simp only[am,SS,sa,az]at*);(try rw[dq (by omega) (by omega)]);(try simp only[Ds]at*))
 all_goals first
  | (show(_:List DV)=_
     first
      |(refine au ?_;symm;exact abb i0 (by assumption) (by assumption))
      |(refine au ?_;rw[Qb i2 (by omega)];simp[*,cT];done)
      |done)
  |omega
  |exact fQ
  |(show aw _ _=true;kernel_rfl)
  |exact⟨hw,hl⟩
  |exact⟨Rw.take hw _,by rw[Zg];omega⟩
  |exact bV
  |exact bN i2 (by assumption)
  |done
def lA:EC:=fun F=>fun
 |[.one (.v (.int Za c))]=>some (fun _=>True,[.k (F.inR c 0 15)])
 |_=>none
theorem w9:ec 282 lA:=by
 intro _ _ _ h hp;dsimp only[lA,F0]at h;split at h<;>cases h
 rename_i c;refine cb Ma0 Tryz.func282 ?_
 exact zq1
def fZ:EC:=fun F=>fun
 |[.one (.v (.int Za c))]=>some (fun _=>True,[.k (F.inR c 0 1073741823)])
 |_=>none
theorem lm:ec 69 fZ:=by
 intro _ _ _ h hp;dsimp only[fZ,F0]at h;split at h<;>cases h
 rename_i c;refine cb Ma0 Tryz.func69 ?_
 exact zq1
abbrev Mb1:dr:=dW (fun F f=>match f with|33=>ax F|282=>lA F|_=>fun _=>none) (by
 intro f;dsimp only;split;exact aT;exact w9;exact dD)
def lq:EC:=fun F=>fun
 |[.agg [.v (.int Za k),.v (.int Za m),.s 1 cs]]=>some (fun _=>Rw [tI] cs/\cs.length<=1099511627776,[.k (F.plOk k m cs)])
 |_=>none
theorem wY:ec 178 lq:=by
 intro _ _ _ h hp;dsimp only[lq,F0]at h;split at h<;>cases h
 rename_i k m cs;obtain⟨hw,hl⟩:=hp;refine cb Mb1 Tryz.func178 ?_
 intro O r F hO hr hF;cbv
 repeat' first|apply Zd|(apply cS<;>intro hb<;>cbv)|(refine⟨[1,6,7,8],[1],Int,fun i=>[.reg 8 (.j i)],fun i=>0<=i/\i<=((cs.length:Nat):Int)/\upto (Jn cs) i,fun i=>(cs.length)-i.toNat,⟨0,?_,?_⟩,?_⟩;rotate_left;(focus (cbv;done));intro i hi;replace hi:0<=i/\i<=((cs.length:Nat):Int)/\upto (Jn cs) i:=hi;obtain⟨i0,i1,i2⟩:=hi;cbv)|(refine ah (O.ar .add Za i 1) ?_ ?_ ?_;focus (cbv;done))
 all_goals(subst hO hr hF;(try simp only[nc]at*);(try simp only[am,SS,sa,az]at*);(try rw[dq (by omega) (by omega)]);(try have z:=IU i0 (by omega));(try simp only[z]at*))
 all_goals first
  | (show(_:List DV)=_
     first
      |(refine au ?_;symm;exact P1 i0 (by assumption) (by assumption))
      |(refine au ?_;symm;exact P3 i0 (by assumption) (by omega) (by assumption))
      |(refine au ?_;rw[Ik i2 (by omega)];simp[*,cT];done)
      |(refine au ?_;rw[Ik i2 (by omega),GP];simp[*];done)
      |(have q:false=true:=(by assumption);cases q)
      |done)
  |omega
  |exact fQ
  |exact bV
  |exact bN i2 (K0 (by assumption) (by omega))
  |exact bN i2 (K1 (by assumption) (by assumption))
  |done
abbrev Mb2:dr:=dW (fun F f=>match f with|178=>lq F|33=>ax F|_=>fun _=>none) (by
 intro f;dsimp only;split;exact wY;exact aT;exact dD)
def mE:EC:=fun F=>fun
 |[.agg [.v (.int Za k),.v (.int Za m),.s 1 cs,.v (.int Za ph),.v (.int Za nx)]]=>some (fun _=>Rw [tI] cs/\cs.length<=1099511627776,[.k (F.jbOk k m cs ph nx)])
 |_=>none
theorem yr:ec 70 mE:=by
 intro _ _ _ h hp;dsimp only[mE,F0]at h;split at h<;>cases h
 rename_i k m cs ph nx;refine cb Mb2 Tryz.func70 ?_
 intro O r F hO hr hF;cbv
 repeat' first|apply Zd|(apply cS<;>intro hb<;>cbv)
 all_goals(subst hO hr hF;(try simp only[nc]at*);(try simp only[am,SS,sa,az]at*))
 all_goals first|exact hp|(show(_:List DV)=_;refine au ?_;unfold jbOk;simp[*];done)|done
abbrev Mb3:dr:=dW (fun F f=>match f with|157=>de F|33=>ax F|56=>cn F|_=>fun _=>none) (by
 intro f;dsimp only;split;exact d4;exact aT;exact cR;exact dD)
def fh:EC:=fun F=>fun
 |[.agg [.s 1 ls]]=>some (fun _=>Nx ls,[.k (F.caOk ls)])
 |_=>none
theorem j6:ec 66 fh:=by
 intro _ _ _ h hp;dsimp only[fh,F0]at h;split at h<;>cases h
 rename_i ls;have hw:=hp.w;have hl:=hp.l;have hn:=hp.n;refine cb Mb3 Tryz.func66 ?_
 intro O r F hO hr hF;cbv
 repeat' first|apply Zd|(apply cS<;>intro hb<;>cbv)|(refine⟨[1,3,10,11,12],[1,8],Int×af,fun s_=>match s_ with|(i,es)=>[.reg 12 (.j i),.leaf 8 0 ⟨0,0,none,.own (.m true es)⟩],fun s_=>match s_ with|(i,es)=>0<=i/\i<=(ls.length:Int)/\BZ ls i es,fun s_=>match s_ with|(i,es)=>ls.length-i.toNat,⟨(0,[]),?_,?_⟩,?_⟩;rotate_left;(focus (cbv;done));intro s_ hi;obtain⟨i,es⟩:=s_;replace hi:0<=i/\i<=(ls.length:Int)/\BZ ls i es:=hi;obtain⟨i0,i1,i2⟩:=hi;cbv)|(refine⟨[1,3,4,10,11,12,25,26,27],[1,8],Int×af,fun s_=>match s_ with|(k,es1)=>[.reg 27 (.j k),.leaf 8 0 ⟨0,0,none,.own (.m true es1)⟩],fun s_=>match s_ with|(k,es1)=>0<=k/\k<=((aO ls i 0).length:Int)/\B0 ls i k es1,fun s_=>match s_ with|(k,es1)=>(aO ls i 0).length-k.toNat,⟨(0,es),?_,?_⟩,?_⟩;rotate_left;(focus (cbv;done));intro s_ hk;obtain⟨k,es1⟩:=s_;replace hk:0<=k/\k<=((aO ls i 0).length:Int)/\B0 ls i k es1:=hk;obtain⟨k0,k1,k2⟩:=hk;cbv)|(refine ah (O.ar .add Za k 1,O.mu es1 (O.gi (O.gs ls i 0) k 0) (.v (.bool true))) ?_ ?_ ?_;focus (cbv;done))|(refine ah (O.ar .add Za i 1,es1) ?_ ?_ ?_;focus (cbv;done))
 all_goals(subst hO hr hF;(try simp only[nc]at*);(try simp only[am,SS,sa,az]at*);(try rw[dq (by omega) (by omega)]);(try have z6:bO .add Za k 1=k+1:=cE (by have:=hn i;omega));(try simp only[z6]at*);(try have w2:=hp.el i0 (by omega));(try have w3:=w2.1);(try have w4:=k2.p.l))
 all_goals first
  | (show(_:List DV)=_
     first
      |(refine au ?_;exact NQ i2.p i1 (by omega))
      |(refine au ?_;symm;exact Kn i2 i0 (by omega) (by assumption))
      |(refine au ?_;symm;exact Ko i2 i0 (by assumption) (by assumption))
      |(refine au ?_;symm;exact GF i0 (by omega) k0 (by assumption) (RL (by assumption)))
      |(refine au ?_;symm;exact GF i0 (by omega) k0 (by assumption) (RN (by assumption)))
      |(refine au ?_;symm;exact Kp k2 i0 k0 (by assumption) (by assumption))
      |done)
  |omega
  |exact fQ
  |(have c:=(lT (bi.2 (by omega:0<=i/\i<=3))).1;omega)
  |exact O1 k2 k0 (by assumption) (by assumption) (by assumption)
  |exact O0 k2 i0 k1 (by omega)
  |exact TM i2 i0 (by assumption) (by omega)
  |exact TL
  |done
def jJ:EC:=fun F=>fun
 |[.agg [.v (.int Za d0),.v (.int Za d1),.v (.int Za d2),.v (.int Za d3)],.ptr [.v (.int Za e0),.v (.int Za e1),.v (.int Za e2),.v (.int Za e3)]]=>some (fun _=>True,[.k (F.eqB d0 e0)])
 |_=>none
theorem tP:ec 174 jJ:=by
 intro _ _ _ h hp;dsimp only[jJ,F0]at h;split at h<;>cases h
 rename_i d0 d1 d2 d3 e0 e1 e2 e3;refine cb nB Tryz.func174 ?_
 exact zq2
abbrev Na1:dr:=dW (fun F f=>match f with|174=>jJ F|_=>fun _=>none) (by
 intro f;dsimp only;split;exact tP;exact dD)
def be:EC:=fun F=>fun
 |[.one (.s 4 os),.fn 174 [[.v (.int Za e0),.v (.int Za e1),.v (.int Za e2),.v (.int Za e3)]]]=>some (fun _=>Rw [tI,tI,tI,tI] os/\os.length<=1099511627776,[.j (F.oiI os e0)])
 |_=>none
theorem cq:ec 151 be:=by
 intro _ _ _ h hp;dsimp only[be,F0]at h;split at h<;>cases h
 rename_i os e0 e1 e2 e3;obtain⟨hw,hn⟩:=hp;refine cb Na1 Tryz.func151 ?_
 intro O r F hO hr hF;cbv
 repeat' first|apply Zd|(apply cS<;>intro hb<;>cbv)|(refine⟨[0,1,7,8],[0],Int,fun i=>[.reg 8 (.j i)],fun i=>0<=i/\i<=((os.length:Nat):Int)/\upto (cK (HA os e0)) i,fun i=>(os.length)-i.toNat,⟨0,?_,?_⟩,?_⟩;rotate_left;(focus (cbv;done));intro i hi;replace hi:0<=i/\i<=((os.length:Nat):Int)/\upto (cK (HA os e0)) i:=hi;obtain⟨i0,i1,i2⟩:=hi;cbv)|(refine ah (O.ar .add Za i 1) ?_ ?_ ?_;focus (cbv;done))
 all_goals(subst hO hr hF;(try simp only[nc]at*);(try simp only[am,SS,sa,az]at*);(try rw[dq (by omega) (by omega)]))
 all_goals first
  | (show(_:List DV)=_
     first
      |exact cB (du i2 i0 (by assumption) (show HA os e0 i=true from by assumption)).symm
      |exact cB (d7 i2 (by assumption)).symm
      |done)
  |omega
  |exact fQ
  |(show(lk _ _).isSome=true;kernel_rfl)
  |exact bV
  |exact bN i2 (ft (show HA os e0 i=false from by assumption))
  |done
abbrev Na2:dr:=dW (fun F f=>match f with|151=>be F|_=>fun _=>none) (by
 intro f;dsimp only;split;exact cq;exact dD)
def aX:EC:=fun F=>fun
 |[.one (.s 4 os),.fn 174 [[.v (.int Za e0),.v (.int Za e1),.v (.int Za e2),.v (.int Za e3)]]]=>some (fun _=>Rw [tI,tI,tI,tI] os/\os.length<=1099511627776,[.k (F.oiB os e0)])
 |_=>none
theorem bW:ec 173 aX:=by
 intro _ _ _ h hp;dsimp only[aX,F0]at h;split at h<;>cases h
 rename_i os e0 e1 e2 e3;refine cb Na2 Tryz.func173 ?_
 intro O r F hO hr hF;cbv
 repeat' first|apply Zd|(apply cS<;>intro hb<;>cbv)
 all_goals(subst hO hr hF;(try simp only[nc]at*);(try simp only[am,SS,sa,az]at*))
 all_goals first
  | (show(_:List DV)=_
     first
      |exact au (m8 (by unfold oiB;simp only[SS,VK]))
      |done)
  |exact hp
  |done
abbrev Na3:dr:=dW (fun F f=>match f with|33=>ax F|173=>aX F|162=>dF F|38=>d5 F|_=>fun _=>none) (by
 intro f;dsimp only;split;exact aT;exact bW;exact fe;exact gM;exact dD)
def lB:EC:=fun F=>fun
 |[.agg hl_]=>hL hl_ fun a0 a1 a2 a3 a4 a5 a6 a7 a8 a9 aA aB aC aD aE aF aG aH aI aJ aK aL aM aN=>(fun _=>NsH a6 a7 a8 a9 aA aB aD/\layOk a6 a7=true,[.k (F.objOk a6 a7 a8 a9 aH)])
 |_=>none
theorem xc:ec 67 lB:=by
 intro _ _ _ h hp;dsimp only[lB,F0,hL]at h;split at h;rotate_left;cases h;split at h<;>cases h
 rename_i a0 a1 a2 a3 a4 a5 a6 a7 a8 a9 aA aB aC aD aE aF aG aH aI aJ aK aL aM aN;obtain⟨N,hlay⟩:=hp;have how:=N.ow;have hol:=N.ol;have hsw:=N.sw;have hlw:=N.lw;have hsl:=N.sl;have hll:=N.ll;have hcl:=N.cl;have hlc:=aS (es:=a9);have hsb:bO .sub Za (a9.length:Int) 1=a9.length-1:=f9 (by omega);refine cb Na3 Tryz.func67 ?_
 intro O r F hO hr hF;cbv
 repeat' first|apply Zd|(apply cS<;>intro hb<;>cbv)|(refine⟨[1,9,10,11],[1],Int,fun i=>[.reg 11 (.j i)],fun i=>0<=i/\i<=((a8.length:Nat):Int)/\upto (yY a6 a7 a8 a9 aH) i,fun i=>(a8.length)-i.toNat,⟨0,?_,?_⟩,?_⟩;rotate_left;(focus (cbv;done));intro i hi;replace hi:0<=i/\i<=((a8.length:Nat):Int)/\upto (yY a6 a7 a8 a9 aH) i:=hi;obtain⟨i0,i1,i2⟩:=hi;cbv)|(refine ah (O.ar .add Za i 1) ?_ ?_ ?_;focus (cbv;done))
 all_goals(subst hO hr hF;(try simp only[nc]at*);(try simp only[am,SS,sa,az]at*);(try rw[dq (by omega) (by omega)]);(try have z:=IU i0 (by omega));(try simp only[z,hsb,Ds]at*);(try have d1:=fun h=>GT (sp:=a6) (lg:=a7) (a:=ag a8 i 1) h);(try have d3:=fun h=>L9 (sp:=a6) (lg:=a7) (a:=ag a8 i 1) h))
 all_goals first
  |(exfalso;omega)
  | (show(_:List DV)=_
     first
      |(refine au ?_;symm;exact xY i0 (by assumption) (aay (by assumption) (by assumption)))
      |(refine au ?_;symm;exact xY i0 (by assumption) (aaz (by assumption)))
      |(refine au ?_;symm;exact xY i0 (by assumption) (aaA (by assumption)))
      |(refine au ?_;symm;exact xY i0 (by assumption) (aaC (by assumption)))
      |(refine au ?_;symm;exact xY i0 (by assumption) (MG (aaH (by assumption))))
      |(refine au ?_;symm;exact xY i0 (by assumption) (MG (aej (by first|exact .inl (by assumption)|exact .inr (by assumption)|exact .inl (by omega)) (by first|exact .inl (by assumption)|exact .inr (by assumption)|exact .inl (by omega)))))
      |(refine au ?_;symm;exact PW i2 (by omega))
      |(have q:false=true:=(by assumption);cases q)
      |done)
  |omega
  |exact fQ
  |(show aw _ _=true;kernel_rfl)
  |exact⟨hsw,hlw⟩
  |exact⟨Rw.take how _,by rw[Zg];omega⟩
  |exact bV
  |exact bN i2 (aaD (by first|exact .inl (by omega)|exact .inr (by assumption)) (by assumption) (by assumption) (by assumption) (aaJ (by assumption) (by assumption) (by assumption)))
  |exact bN i2 (aaD (by first|exact .inl (by omega)|exact .inr (by assumption)) (by assumption) (by assumption) (by assumption) (aaK (by assumption) (by assumption) (by assumption)))
  |(have q:false=true:=(by assumption);cases q)
  |done
abbrev Oa1:dr:=dW (fun F f=>match f with|162=>dF F|_=>fun _=>none) (by
 intro f;dsimp only;split;exact fe;exact dD)
def gC:EP:=fun F=>fun
 |[.one (.v (.int Za ad)),.one (.v (.int Za k)),.mp [.own (.m false es)],.mp [.ro (.s 1 a0),.ro (.s 1 a1),.ro (.s 2 a2),.own (.v (.int Za a3)),.ro (.s 1 a4),.ro (.s 2 a5),.ro (.s 3 a6),.ro (.s 3 a7),.ro (.s 4 a8),.ro (.s 1 a9),.ro (.s 1 aA),.ro (.s 1 aB),.own (.v (.int Za aC)),.ro (.s 3 aD),.own (.v (.int Za aE)),.own (.v (.int Za aF)),.own (.v (.int Za aG)),.own (.v (.int Za aH)),.own (.v (.bool aI)),.own (.v (.int Za aJ)),.own (.v (.int Za aK)),.ro (.s 1 aL),.own (.v (.int Za aM)),.own (.v (.int Za aN))]]=>some (fun _=>Rw [tI,tI,tI] a6/\Rw [tI,tI,tI] a7,[[.own (.m false (F.huI es ad))],[.ro (.s 1 a0),.ro (.s 1 a1),.ro (.s 2 a2),.own (.i a3),.ro (.s 1 a4),.ro (.s 2 a5),.ro (.s 3 a6),.ro (.s 3 a7),.ro (.s 4 a8),.ro (.s 1 a9),.ro (.s 1 aA),.ro (.s 1 aB),.own (.i aC),.ro (.s 3 aD),.own (.i aE),.own (.i aF),.own (.i aG),.own (.i aH),.own (.v (.bool aI)),.own (.i aJ),.own (.i aK),.ro (.s 1 aL),.own (.i aM),.own (.i aN)]],[.k (F.hlB a6 a7 ad k)])
 |_=>none
theorem pw:ep 175 gC:=by
 intro _ _ _ _ h hp;dsimp only[gC,F0]at h;split at h<;>cases h
 rename_i ad k es a0 a1 a2 a3 a4 a5 a6 a7 a8 a9 aA aB aC aD aE aF aG aH aI aJ aK aL aM aN;obtain⟨hsw,hlw⟩:=hp;refine pb Oa1 Tryz.func175 ?_
 intro O r os F hO hr hos hF;cbv
 repeat' first|apply Zd|(apply cS<;>intro hb<;>cbv)
 all_goals((try subst hos);subst hO hr hF;(try simp only[nc]at*);(try simp only[am,SS,sa,az]at*);(try have d1:=fun h=>GT (sp:=a6) (lg:=a7) (a:=ad) h))
 all_goals first|(show(_:List DV)=_;refine au ?_;unfold hlB;simp[*];done)|(show(_:List DV)=_;refine au ?_;unfold hlB;rw[VJ (p:=k<0) (by omega),cmp_eq];simp[*];done)|(show(_:List H)=_;exact rfl)|exact⟨hsw,hlw⟩|(have e:=d1 (by assumption);exact fQ)|done
abbrev Oa2:dr:={
 Φ:=t8
 F0:=F0
 ct:=fun F f=>match f with|176=>jy F|177=>iE F|_=>fun _=>none
 hc:=(by
  intro f;dsimp only;split;exact tE;exact rB;exact dD)
 pt:=fun F f=>match f with|175=>some (gC F)|_=>none
 hp:=(by
  intro f mk h;dsimp only at h;split at h<;>cases h
  exact pw)}
def iK:EC:=fun F=>fun
 |[.agg hl_]=>hL hl_ fun a0 a1 a2 a3 a4 a5 a6 a7 a8 a9 aA aB aC aD aE aF aG aH aI aJ aK aL aM aN=>(fun _=>NsH a6 a7 a8 a9 aA aB aD/\layOk a6 a7=true,[.k (F.hoI a6 a7 a8 a9 aA aB aD aF)])
 |_=>none
theorem rH:ec 68 iK:=by
 intro _ _ _ h hp;dsimp only[iK,F0,hL]at h;split at h;rotate_left;cases h;split at h<;>cases h
 rename_i a0 a1 a2 a3 a4 a5 a6 a7 a8 a9 aA aB aC aD aE aF aG aH aI aJ aK aL aM aN;obtain⟨N,hlay⟩:=hp;have hsw:=N.sw;have hlw:=N.lw;have hsl:=N.sl;have hll:=N.ll;have how:=N.ow;have hol:=N.ol;have hcw:=N.cw;have hcl:=N.cl;have hqw:=N.qw;have hql:=N.ql;have hcc:=N.c;have hlc:=aS (es:=a9);have hfr:=TN N.m;have hfl:=O2 (b:=aA) (x:=aB);have hlr:=T9 (sp:=a6) (lg:=a7);have hla:=HG (sp:=a6) (lg:=a7);refine cb Oa2 Tryz.func68 ?_
 intro O r F hO hr hF;cbv
 repeat' first|apply Zd|(apply cS<;>intro hb<;>cbv)|(refine⟨[1,3,4,22,23,24],[1,3],Int×af,fun s_=>match s_ with|(i,es)=>[.reg 24 (.j i),.leaf 3 0 ⟨0,0,none,.own (.m false es)⟩],fun s_=>match s_ with|(i,es)=>0<=i/\i<=(a9.length:Int)/\Q0 a6 a7 a9 i es,fun s_=>match s_ with|(i,es)=>a9.length-i.toNat,⟨(0,[]),?_,?_⟩,?_⟩;rotate_left;(focus (cbv;done));intro s_ hi;obtain⟨i,es⟩:=s_;replace hi:0<=i/\i<=(a9.length:Int)/\Q0 a6 a7 a9 i es:=hi;obtain⟨i0,i1,i2⟩:=hi;cbv)|(refine⟨[1,3,4,22,23,24,29,30,31],[1,3],Int×af,fun s_=>match s_ with|(k,es1)=>[.reg 31 (.j k),.leaf 3 0 ⟨0,0,none,.own (.m false es1)⟩],fun s_=>match s_ with|(k,es1)=>0<=k/\k<=((aO a9 i 0).length:Int)/\Q2 a6 a7 a9 i k es1,fun s_=>match s_ with|(k,es1)=>(aO a9 i 0).length-k.toNat,⟨(0,es),?_,?_⟩,?_⟩;rotate_left;(focus (cbv;done));intro s_ hk;obtain⟨k,es1⟩:=s_;replace hk:0<=k/\k<=((aO a9 i 0).length:Int)/\Q2 a6 a7 a9 i k es1:=hk;obtain⟨k0,k1,k2⟩:=hk;cbv)|(refine⟨[1,3,4,7,22,23,24,29,30,31,36,37,38],[1,3],Int×af,fun s_=>match s_ with|(j,es2)=>[.reg 38 (.j j),.leaf 3 0 ⟨0,0,none,.own (.m false es2)⟩],fun s_=>match s_ with|(j,es2)=>0<=j/\j<=((aO (aO a9 i 0) k 0).length:Int)/\Q1 a6 a7 a9 i k j es2,fun s_=>match s_ with|(j,es2)=>(aO (aO a9 i 0) k 0).length-j.toNat,⟨(0,es1),?_,?_⟩,?_⟩;rotate_left;(focus (cbv;done));intro s_ hj;obtain⟨j,es2⟩:=s_;replace hj:0<=j/\j<=((aO (aO a9 i 0) k 0).length:Int)/\Q1 a6 a7 a9 i k j es2:=hj;obtain⟨j0,j1,j2⟩:=hj;cbv)|(refine⟨[1,3,4,52,53,54],[1,3],Int×af,fun s_=>match s_ with|(q,es3)=>[.reg 54 (.j q),.leaf 3 0 ⟨0,0,none,.own (.m false es3)⟩],fun s_=>match s_ with|(q,es3)=>0<=q/\q<=(aD.length:Int)/\Q3 a6 a7 a9 aD aF q es3,fun s_=>match s_ with|(q,es3)=>aD.length-q.toNat,⟨(0,es),?_,?_⟩,?_⟩;rotate_left;(focus (cbv;done));intro s_ hq;obtain⟨q,es3⟩:=s_;replace hq:0<=q/\q<=(aD.length:Int)/\Q3 a6 a7 a9 aD aF q es3:=hq;obtain⟨q0,q1,q2⟩:=hq;cbv)|(refine⟨[1,3,4,75,76,77],[1,3,75],Int×af,fun s_=>match s_ with|(f,es4)=>[.reg 77 (.j f),.leaf 3 0 ⟨0,0,none,.own (.m false es4)⟩],fun s_=>match s_ with|(f,es4)=>0<=f/\f<=((ifL aA aB).length:Int)/\QZ a6 a7 a9 aD (ifL aA aB) aF f es4,fun s_=>match s_ with|(f,es4)=>(ifL aA aB).length-f.toNat,⟨(0,es3),?_,?_⟩,?_⟩;rotate_left;(focus (cbv;done));intro s_ hf;obtain⟨f,es4⟩:=s_;replace hf:0<=f/\f<=((ifL aA aB).length:Int)/\QZ a6 a7 a9 aD (ifL aA aB) aF f es4:=hf;obtain⟨f0,f1,f2⟩:=hf;cbv)|(refine⟨[1,3,87,88,89],[1,3],Int×af,fun s_=>match s_ with|(p,es5)=>[.reg 89 (.j p),.leaf 3 0 ⟨0,0,none,.own (.m false es5)⟩],fun s_=>match s_ with|(p,es5)=>0<=p/\p<=(a8.length:Int)/\Nr a6 a7 a8 a9 aD (ifL aA aB) aF p es5,fun s_=>match s_ with|(p,es5)=>a8.length-p.toNat,⟨(0,es4),?_,?_⟩,?_⟩;rotate_left;(focus (cbv;done));intro s_ hp;obtain⟨p,es5⟩:=s_;replace hp:0<=p/\p<=(a8.length:Int)/\Nr a6 a7 a8 a9 aD (ifL aA aB) aF p es5:=hp;obtain⟨p0,p1,p2⟩:=hp;cbv)|(refine⟨[3,103,104,105],[3,103],Int×af,fun s_=>match s_ with|(t,es6)=>[.reg 105 (.j t),.leaf 3 0 ⟨0,0,none,.own (.m false es6)⟩],fun s_=>match s_ with|(t,es6)=>0<=t/\t<=((iaL a6 a7).length:Int)/\LL a6 a7 a8 a9 aD (ifL aA aB) aF t es6,fun s_=>match s_ with|(t,es6)=>(iaL a6 a7).length-t.toNat,⟨(0,es5),?_,?_⟩,?_⟩;rotate_left;(focus (cbv;done));intro s_ ht;obtain⟨t,es6⟩:=s_;replace ht:0<=t/\t<=((iaL a6 a7).length:Int)/\LL a6 a7 a8 a9 aD (ifL aA aB) aF t es6:=ht;obtain⟨t0,t1,t2⟩:=ht;cbv)|(refine ah (O.ar .add Za j 1,F.huI es2 (O.gi (O.gs (O.gs a9 i 0) k 0) j 0)) ?_ ?_ ?_;focus (cbv;done))|(refine ah (O.ar .add Za k 1,es2) ?_ ?_ ?_;focus (cbv;done))|(refine ah (O.ar .add Za i 1,es1) ?_ ?_ ?_;focus (cbv;done))|(refine ah (O.ar .add Za t 1,es6) ?_ ?_ ?_;focus (cbv;done))|(refine ah (O.ar .add Za p 1,O.mu es5 (O.gi a8 p 1) (.i (O.ar .add Za (O.mgi es5 (O.gi a8 p 1)) 1))) ?_ ?_ ?_;focus (cbv;done))|(refine ah (O.ar .add Za f 1,F.huI es4 (O.pi (.s 1 (F.ifL aA aB)) [(O.ad 0 f,0)])) ?_ ?_ ?_;focus (cbv;done))|(refine ah (O.ar .add Za q 1,F.huI es3 (O.gi aD q 0)) ?_ ?_ ?_;focus (cbv;done))
 all_goals(subst hO hr hF;(try simp only[nc]at*);(try simp only[am,SS,sa,az]at*);(try rw[dq (by omega) (by omega)]);(try simp only[Df f0]at*);(try simp only[Df t0,KI]at*);(try have z8:bO .add Za t 1=t+1:=cE (by omega));(try simp only[z8]at*);(try have w6:=hcc.n i i0 (by assumption));(try have w7:=w6.el k0 (by assumption));(try have w8:=w7.1);(try have z6:bO .add Za k 1=k+1:=cE (by have:=w6.l;omega));(try simp only[z6]at*);(try have z7:bO .add Za j 1=j+1:=cE (by have:=w7.2;omega));(try simp only[z7]at*))
 all_goals first
  | (show(_:List DV)=_
     first
      |(refine au ?_;symm;exact OO i0 (by assumption) (adC k0 (by assumption) j0 (by assumption) (by assumption)))
      |(refine au ?_;symm;exact Hl q0 (by assumption) (abe (by assumption)))
      |(refine au ?_;symm;exact Hl q0 (by assumption) (abf (by assumption)))
      |(refine au ?_;symm;exact OP f0 (by assumption) (by assumption))
      |(refine au ?_;symm;exact adf t2 t0 (by assumption) (by assumption))
      |(refine au ?_;symm;exact OL t2 (by omega))
      |done)
  |omega
  |exact fQ
  |exact⟨hsw,hlw⟩
  |exact⟨hsw,hlw,hsl,hll⟩
  |exact N.m
  |exact MH hfr f0 (by assumption)
  |exact MH hlr t0 (by assumption)
  |exact Tp j2 i0 (by assumption) k0 (by assumption) j0 (by assumption) hcl (by assumption)
  |exact Tq j2 k0 j1 (by omega)
  |exact To k2 i0 k1 (by omega)
  |exact adb k2
  |exact adc i2
  |exact ada
  |exact ady i2 i1 (by omega)
  |exact TC q2 q0 (by assumption) hcl hql (aes (by assumption) (by omega))
  |exact ac9 q2 q1 (by omega)
  |exact Tf f2 f0 (by assumption) hcl hql hfl (by assumption)
  |exact adi f2 f1 (by omega)
  |exact Tv p2 p0 (by assumption) hcl hql hol hfl
  |exact ade p2 p1 (by omega)
  |exact Tt t2 (by assumption)
  |done
abbrev Pa0:dr:=dW (fun F f=>match f with|54=>cY F|_=>fun _=>none) (by
 intro f;dsimp only;split;exact dY;exact dD)
def fY:EC:=fun F=>fun
 |[.agg [.s 1 a0,.s 1 a1,.s 2 a2,.v (.int Za a3),.s 1 a4],.one (.v (.int Za p))]=>some (fun _=>Rw [tI,tI] a2,[.k (F.mapB a2 p)])
 |_=>none
theorem li:ec 170 fY:=by
 intro _ _ _ h hp;dsimp only[fY,F0]at h;split at h<;>cases h
 rename_i a0 a1 a2 a3 a4 p;refine cb Pa0 Tryz.func170 ?_
 intro O r F hO hr hF;cbv
 repeat' first|apply Zd|(apply cS<;>intro hb<;>cbv)
 all_goals(subst hO hr hF;(try simp only[nc]at*);(try simp only[am,SS,sa,az]at*))
 all_goals first|(show(_:List DV)=_;refine au ?_;unfold mapB;rw[GP];done)|exact hp|done
abbrev Pa1:dr:=dW (fun F f=>match f with|169=>eW F|170=>fY F|171=>jC F|54=>cY F|172=>jz F|_=>fun _=>none) (by
 intro f;dsimp only;split;exact kT;exact li;exact tH;exact dY;exact tF;exact dD)
def ku:EC:=fun F=>fun
 |[.agg hl_]=>hL hl_ fun a0 a1 a2 a3 a4 a5 a6 a7 a8 a9 aA aB aC aD aE aF aG aH aI aJ aK aL aM aN=>(fun _=>NsH a6 a7 a8 a9 aA aB aD/\layOk a6 a7=true/\Rw [tI,tI] a2/\a2.length<=1099511627776/\Rw [tI,tI] a5/\a5.length<=1099511627776,[.k (F.pgI a2 a5 a6 a7)])
 |_=>none
theorem uU:ec 63 ku:=by
 intro _ _ _ h hp;dsimp only[ku,F0,hL]at h;split at h;rotate_left;cases h;split at h<;>cases h
 rename_i a0 a1 a2 a3 a4 a5 a6 a7 a8 a9 aA aB aC aD aE aF aG aH aI aJ aK aL aM aN;obtain⟨N,hlay,hew,hel,hfw,hfl⟩:=hp;have hsw:=N.sw;have hlw:=N.lw;have hsl:=N.sl;have hll:=N.ll;have F:=MB hlay;have lgF:∀ j:Int,0<=j->j<a7.length->0<=ag a7 j 0/\1<=ag a7 j 1/\ag a7 j 0+ag a7 j 1<=32:=fun j h0 h1=>by
  have t:=mL (F.l j.toNat (by omega));rw[Int.toNat_of_nonneg h0]at t;have b:=o7 t.1;omega
 refine cb Pa1 Tryz.func63 ?_
 intro O r F hO hr hF;cbv
 repeat' first|apply Zd|(apply cS<;>intro hb<;>cbv)|(refine⟨[1,18,19,20],[1],Int,fun i=>[.reg 20 (.j i)],fun i=>0<=i/\i<=(a6.length:Int)/\upto (Af a6) i,fun i=>a6.length-i.toNat,⟨0,?_,?_⟩,?_⟩;rotate_left;(focus (cbv;done));intro i hi;replace hi:0<=i/\i<=(a6.length:Int)/\upto (Af a6) i:=hi;obtain⟨i0,i1,i2⟩:=hi;cbv)|(refine⟨[1,5,42,43,44],[1,40],Int×af,fun s_=>match s_ with|(q,m)=>[.reg 44 (.j q),.leaf 40 0 ⟨0,0,none,.own (.m true m)⟩],fun s_=>match s_ with|(q,m)=>0<=q/\q<=(a6.length:Int)/\uB m (mw a6 q.toNat),fun s_=>match s_ with|(q,m)=>a6.length-q.toNat,⟨(0,[]),?_,?_⟩,?_⟩;rotate_left;(focus (cbv;done));intro s_ hq;obtain⟨q,m⟩:=s_;replace hq:0<=q/\q<=(a6.length:Int)/\uB m (mw a6 q.toNat):=hq;obtain⟨q0,q1,q2⟩:=hq;cbv)|(refine⟨[1,5,53,54,55],[1,40],Int×af,fun s_=>match s_ with|(j,m1)=>[.reg 55 (.j j),.leaf 40 0 ⟨0,0,none,.own (.m true m1)⟩],fun s_=>match s_ with|(j,m1)=>0<=j/\j<=(a7.length:Int)/\Q7 a2 a6 a7 j m1,fun s_=>match s_ with|(j,m1)=>a7.length-j.toNat,⟨(0,m),?_,?_⟩,?_⟩;rotate_left;(focus (cbv;done));intro s_ hj;obtain⟨j,m1⟩:=s_;replace hj:0<=j/\j<=(a7.length:Int)/\Q7 a2 a6 a7 j m1:=hj;obtain⟨j0,j1,j2⟩:=hj;cbv)|(refine⟨[1,5,9,10,53,54,55],[1,40,9],Int×af,fun s_=>match s_ with|(p,m2)=>[.reg 10 (.j p),.leaf 40 0 ⟨0,0,none,.own (.m true m2)⟩],fun s_=>match s_ with|(p,m2)=>ag a7 j 0<=p/\p<=ag a7 j 0+ag a7 j 1/\Q6 a2 a6 a7 j (p-ag a7 j 0) m2,fun s_=>match s_ with|(p,m2)=>(ag a7 j 0+ag a7 j 1-p).toNat,⟨(O.gi a7 j 0,m1),?_,?_⟩,?_⟩;rotate_left;(focus (cbv;done));intro s_ hp;obtain⟨p,m2⟩:=s_;replace hp:ag a7 j 0<=p/\p<=ag a7 j 0+ag a7 j 1/\Q6 a2 a6 a7 j (p-ag a7 j 0) m2:=hp;obtain⟨p0,p1,p2⟩:=hp;cbv)|(refine⟨[1,5,98,99],[1,40],Int,fun e=>[.reg 99 (.j e)],fun e=>0<=e/\e<=(a2.length:Int)/\upto (Ga a2 a5 a6 a7) e,fun e=>a2.length-e.toNat,⟨0,?_,?_⟩,?_⟩;rotate_left;(focus (cbv;done));intro e he;replace he:0<=e/\e<=(a2.length:Int)/\upto (Ga a2 a5 a6 a7) e:=he;obtain⟨e0,e1,e2⟩:=he;cbv)|(refine⟨[1,122],[1],List Int,fun vs=>[.reg 122 (.one (.it m1 vs))],fun vs=>True/\∀ k∈vs,k<(a2.length:Int),fun vs=>m1.length-vs.length,⟨[],?_,?_⟩,?_⟩;rotate_left;(focus (cbv;done));intro vs tT;replace tT:True/\∀ k∈vs,k<(a2.length:Int):=tT;obtain⟨vs0,vs1⟩:=tT;cbv)|(refine⟨[1,136,137,138],[1],Int,fun u=>[.reg 138 (.j u)],fun u=>0<=u/\u<=(a6.length:Int)/\upto (Jm a2 a6) u,fun u=>a6.length-u.toNat,⟨0,?_,?_⟩,?_⟩;rotate_left;(focus (cbv;done));intro u hu;replace hu:0<=u/\u<=(a6.length:Int)/\upto (Jm a2 a6) u:=hu;obtain⟨u0,u1,u2⟩:=hu;cbv)|(refine⟨[1,14,136,137,138,146,147,148],[1,14],Int,fun v=>[.reg 148 (.j v)],fun v=>0<=v/\v<=u/\upto (Jl a2 a6 u) v,fun v=>(u-v).toNat,⟨0,?_,?_⟩,?_⟩;rotate_left;(focus (cbv;done));intro v hv;replace hv:0<=v/\v<=u/\upto (Jl a2 a6 u) v:=hv;obtain⟨v0,v1,v2⟩:=hv;cbv)|(refine ah (O.ar .add Za p 1,O.mu m2 p (.v (.bool true))) ?_ ?_ ?_;focus (cbv;done))|(refine ah (O.ar .add Za j 1,m2) ?_ ?_ ?_;focus (cbv;done))|(refine ah (O.ar .add Za q 1,O.mu m (O.gi a6 q 0) (.v (.bool true))) ?_ ?_ ?_;focus (cbv;done))|(refine ah (O.ar .add Za v 1) ?_ ?_ ?_;focus (cbv;done))|(refine ah (O.ar .add Za u 1) ?_ ?_ ?_;focus (cbv;done))|(refine ah (O.ar .add Za e 1) ?_ ?_ ?_;focus (cbv;done))|(refine ah (O.ar .add Za i 1) ?_ ?_ ?_;focus (cbv;done))|(refine ah (kk::vs) ?_ ?_ ?_;focus (cbv;done))|((intro(kk:Int) (hkk:O.pr _);cbv))|((intro(hkk:O.pr _);cbv))
 all_goals(subst hO hr hF;(try simp only[nc]at*);(try simp only[am,SS,sa,az]at*);(try rw[dq (by omega) (by omega)]);(try have zi:=IU i0 (by omega));(try simp only[zi]at*);(try have zj:=IU j0 (by omega));(try simp only[zj]at*);(try have lf:=lgF j j0 (by assumption));(try have zl:bO .add Za (ag a7 j 0) (ag a7 j 1)=ag a7 j 0+ag a7 j 1:=cE (by omega));(try simp only[zl]at*);(try have zp:bO .add Za p 1=p+1:=cE (by omega));(try simp only[zp]at*);(try have zv:bO .add Za v 1=v+1:=cE (by omega));(try simp only[zv]at*);(try simp only[aaO (P4 j2 j1 (by assumption))]at*);(try simp only[Ds]at*);(try have tl:(List.take u.toNat a6).length=u.toNat:=by(rw[Zg];omega));(try have hwt:=Rw.take hsw u.toNat);(try simp only[Kj (es:=a6) (n:=u.toNat) (i:=v) (by omega)]at*))
 all_goals first
  | (show(_:List DV)=_
     first
      |(refine au ?_;symm;exact aaV i0 (by assumption) (M2 (by assumption) (by assumption)))
      |(refine au ?_;symm;exact MI j0 (by assumption) (aaa (M2 (by assumption) (by assumption))))
      |(refine au ?_;symm;exact MI j0 (by assumption) (aaZ p0 (by assumption) (by omega)))
      |(refine au ?_;symm;exact MJ e0 (by assumption) (Sj (by assumption)))
      |(refine au ?_;symm;exact MJ e0 (by assumption) (Sk (by assumption)))
      |(refine au ?_;symm;exact aaW (aeh (((P4 j2 j1 (by assumption)).k _).1 hkk.1) (by assumption)))
      |(refine au ?_;symm;exact aaX u0 (by assumption) (ad4 v0 (by omega) (by assumption) (by assumption)))
      |(refine au ?_;symm;exact aen i2 (by omega) j2.ok (by omega) e2 (by omega) (aei (P4 j2 j1 (by assumption)) vs1 hkk) u2 (by omega))
      |done)
  |omega
  |exact fQ
  |(show aw _ _=true;kernel_rfl)
  |exact⟨hew,hel⟩
  |exact⟨hfw,hfl⟩
  |exact bV
  |exact bN i2 (M3 (by omega))
  |exact bN i2 (M4 (by assumption))
  |(rw[zu q0];exact Ia q2)
  |exact aaN
  |exact aeo q2 q1 (by omega)
  |exact aaY j2 (M3 (by omega))
  |exact aaY j2 (M4 (by assumption))
  |exact aa0 p2 p0 (by omega)
  |exact aa1 p2 j0 (by omega) p1 (by omega)
  |exact bN e2 (acR (by assumption) (by assumption))
  |exact abT vs1 (by assumption)
  |exact fun k hk=>by cases hk
  |(have q:=hkk.2;simp only[List.length_cons];omega)
  |exact bN v2 (aai (by assumption))
  |exact bN v2 (aaj (by assumption))
  |exact bN u2 (ad5 v2 (by omega) u0)
  |done
abbrev Qa1:dr:=dW (fun F f=>match f with|60=>eE F|61=>eG F|62=>eF F|63=>ku F|64=>eJ F|65=>iZ F|66=>fh F|67=>lB F|68=>iK F|69=>fZ F|33=>ax F|70=>mE F|71=>lz F|_=>fun _=>none) (by
 intro f;dsimp only;split;exact jo;exact jq;exact jp;exact uU;exact iU;exact pd;exact j6;exact xc;exact rH;exact lm;exact aT;exact yr;exact w5;exact dD)
def iX:EC:=fun F=>fun
 |[.agg hl_]=>hL hl_ fun a0 a1 a2 a3 a4 a5 a6 a7 a8 a9 aA aB aC aD aE aF aG aH aI aJ aK aL aM aN=>(fun _=>HpN a0 a1 a2 a4 a5 a6 a7 a8 a9 aA aB aD aL,[.k (F.hpI a0 a1 a2 a3 a4 a5 a6 a7 a8 a9 aA aB aC aD aE aF aG aH aI aJ aK aL aM aN)])
 |_=>none
theorem lh:ec 17 iX:=by
 intro _ _ _ h hp;dsimp only[iX,F0,hL]at h;split at h;rotate_left;cases h;split at h<;>cases h
 rename_i a0 a1 a2 a3 a4 a5 a6 a7 a8 a9 aA aB aC aD aE aF aG aH aI aJ aK aL aM aN;have N:=hp.n;have hcc:=N.c;have hcw:=N.cw;have hel:=hp.el;have hfl:=hp.fl;have hsl:=N.sl;have hcl:=N.cl;have hlc:=aS (es:=a9);refine cb Qa1 Tryz.func17 ?_
 intro O r F hO hr hF;cbv
 repeat' first|apply Zd|(apply cS<;>intro hb<;>cbv)|(refine⟨[1,57,58,59],[1],Int,fun i=>[.reg 59 (.j i)],fun i=>0<=i/\i<=((a9.length:Nat):Int)/\upto (Q9 a9) i,fun i=>(a9.length)-i.toNat,⟨0,?_,?_⟩,?_⟩;rotate_left;(focus (cbv;done));intro i hi;replace hi:0<=i/\i<=((a9.length:Nat):Int)/\upto (Q9 a9) i:=hi;obtain⟨i0,i1,i2⟩:=hi;cbv)|(refine ah (O.ar .add Za i 1) ?_ ?_ ?_;focus (cbv;done))
 all_goals(subst hO hr hF;(try simp only[nc]at*);(try simp only[am,SS,sa,az]at*);(try rw[dq (by omega) (by omega)]))
 all_goals first
  | (show(_:List DV)=_
     first
      |(refine au ?_;symm;exact adl (by assumption))
      |(refine au ?_;symm;exact ads (by assumption))
      |(refine au ?_;symm;exact adm (by assumption))
      |(refine au ?_;symm;exact adq (by assumption))
      |(refine au ?_;symm;exact adn (by assumption))
      |(refine au ?_;symm;exact TA (by assumption))
      |(refine au ?_;symm;exact adr (by assumption))
      |(refine au ?_;symm;exact Tw i0 (by assumption) (by assumption))
      |(refine au ?_;symm;exact adp (by assumption))
      |(refine au ?_;symm;exact adk (by assumption))
      |(refine au ?_;symm;exact adt (by assumption))
      |(refine au ?_;symm;exact adu (by assumption))
      |(refine au ?_;symm;exact adw (by assumption))
      |(refine au ?_;symm;exact adx (by assumption))
      |(refine au ?_;rw[OS (by assumption) (by assumption) (by assumption) (by assumption) (by assumption) (VI (by omega)) (by assumption) (cu i2 (by omega)) (by assumption) (by assumption) (by assumption) (by assumption) (by assumption) (by assumption)];subst_vars;first|exact TV (by assumption)|exact TW (by assumption)|exact TX (by assumption) (by assumption)|exact rfl|((try rw[cmp_eq]);unfold xi TU;simp[*];done))
      |done)
  |omega
  |exact fQ
  |exact⟨hp.c,hp.u,hp.e,hp.r⟩
  |exact⟨by omega,by omega,hp.f,by omega⟩
  |exact⟨N.sw,N.lw,N.sl,N.ll⟩
  |exact⟨N,by assumption,hp.e,by omega,hp.f,by omega⟩
  |exact N.m
  |exact⟨N.qw,N.ql⟩
  |exact hcc.n i i0 (by assumption)
  |exact⟨N,by assumption⟩
  |exact⟨hp.j,by have:=hp.jl;omega⟩
  |exact⟨N.sw,by omega⟩
  |exact bV
  |exact bN i2 (by assumption)
  |done
end Go.V