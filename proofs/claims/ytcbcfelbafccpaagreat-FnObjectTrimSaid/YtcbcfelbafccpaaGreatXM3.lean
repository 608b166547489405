/- Contracts. -/
import Derived.Test.YtcbcfelbafccpaaGreatXM2
import Derived.Test.YtcbcfelbafccpaaGreatXM1
set_option linter.all false
open Go
open And renaming intro->Zc
open IntKind renaming i64->Za
open List renaming length_take->Zi
namespace Go.V
open Go Go.Proofs
set_option maxRecDepth 1000000
set_option maxHeartbeats 8000000
abbrev Ma0:dq:=dP (fun F f=>match f with|19=>ah F|52=>ah F|_=>fun _=>none) (by
 intro f;dsimp only;split;exact aw;exact be;exact dy)
def gR:EC:=fun F=>fun
 |[.one (.v (.int Za n)),.agg [.v (.int Za a),.v (.int Za l)]]=>some (fun _=>0<=n/\n<=1099511627776,[.k (F.rngIn n a l)])
 |_=>none
def np:ec 82 gR:=by
 intro _ _ _ h hp;dsimp only[gR,F0]at h;split at h<;>cases h
 rename_i n a l;refine cb Ma0 Tryz.func82 ?_
 intro O r F hO hr hF;cbv
 repeat' first|apply Zc|(apply cN<;>intro hb<;>cbv)
 all_goals(subst hO hr hF;(try simp only[nc]at*);(try simp only[am,SS,sa,az]at*);(try have t:=bB.1 hb);(try have z:bK .sub Za n l=n-l:=fC Uc);(try simp only[z]at*))
 all_goals first|(show(_:List DV)=_;refine au ?_;unfold rngIn;simp[hb];done)|done
abbrev Ma1:dq:=dP (fun F f=>match f with|19=>ah F|52=>ah F|82=>gR F|_=>fun _=>none) (by
 intro f;dsimp only;split;exact aw;exact be;exact np;exact dy)
def eh:EC:=fun F=>fun
 |[.one (.v (.int Za n)),.one (.s 2 rs)]=>some (fun _=>0<=n/\n<=1099511627776/\Rw [tI,tI] rs/\rs.length<=1099511627776,[.k (F.rgOk n rs)])
 |_=>none
def jf:ec 41 eh:=by
 intro _ _ _ h hp;dsimp only[eh,F0]at h;split at h<;>cases h
 rename_i n rs;obtain⟨n0,n1,hw,hl⟩:=hp;refine cb Ma1 Tryz.func41 ?_
 intro O r F hO hr hF;cbv
 repeat' first|apply Zc|(apply cN<;>intro hb<;>cbv)|(refine⟨[0,1,7,8,9],[],Int,fun i=>[.reg 9 (.j i)],fun i=>0<=i/\i<=((rs.length:Nat):Int)/\upto (vT n rs) i,fun i=>(rs.length)-i.toNat,⟨0,?_,?_⟩,?_⟩;rotate_left;(focus (cbv;done));intro i hi;replace hi:0<=i/\i<=((rs.length:Nat):Int)/\upto (vT n rs) i:=hi;obtain⟨i0,i1,i2⟩:=hi;cbv)|(refine ai (O.ar .add Za i 1) ?_ ?_ ?_;focus (cbv;done))
 all_goals(subst hO hr hF;(try simp only[nc]at*);(try simp only[am,SS,sa,az]at*);(try rw[di Uc Uc]);(try have z:=Ig i0 Uc);(try simp only[z]at*))
 all_goals first
  | (show(_:List DV)=_
     first
      |(refine au ?_;symm;exact Pv i0 Ud Ud)
      |(refine au ?_;symm;exact Pw i0 Ud Ud Ud)
      |(refine au ?_;exact Pu i2 Uc)
      |(have q:false=true:=Ud;cases q)
      |done)
  |omega
  |exact ga
  |(show ay _ _=true;kernel_rfl)
  |exact bR
  |exact bL i2 (KG Ud Uc)
  |exact bL i2 (KH Ud Ud)
  |done
def gG:EC:=fun F=>fun
 |[.agg [.v (.int Za a),.v (.int Za l)],.ptr [.v (.int Za p)]]=>some (fun _=>True,[.k (F.rh1 a l p)])
 |_=>none
def pW:ec 127 gG:=by
 intro _ _ _ h hp;dsimp only[gG,F0]at h;split at h<;>cases h
 rename_i a l p;refine cb nB Tryz.func127 ?_
 intro O r F hO hr hF;cbv
 repeat' first|apply Zc|(apply cN<;>intro hb<;>cbv)
 all_goals(subst hO hr hF;(try simp only[nc]at*);(try simp only[am,SS,sa,az]at*))
 all_goals first|(show(_:List DV)=_;refine au ?_;unfold rh1;rw[VG hb];rfl)|(show(_:List DV)=_;refine au ?_;unfold rh1;rw[VH Uc];rfl)|done
abbrev Ma3:dq:=dP (fun F f=>match f with|127=>gG F|_=>fun _=>none) (by
 intro f;dsimp only;split;exact pW;exact dy)
def aW:EC:=fun F=>fun
 |[.one (.s 2 os),.fn 127 [[.v (.int Za id)]]]=>some (fun _=>Rw [tI,tI] os/\os.length<=1099511627776,[.j (F.rhI os id)])
 |_=>none
def cd:ec 146 aW:=by
 intro _ _ _ h hp;dsimp only[aW,F0]at h;split at h<;>cases h
 rename_i os id;obtain⟨hw,hn⟩:=hp;refine cb Ma3 Tryz.func146 ?_
 intro O r F hO hr hF;cbv
 repeat' first|apply Zc|(apply cN<;>intro hb<;>cbv)|(refine⟨[0,1,7,8],[0],Int,fun i=>[.reg 8 (.j i)],fun i=>0<=i/\i<=((os.length:Nat):Int)/\upto (cI (G3 os id)) i,fun i=>(os.length)-i.toNat,⟨0,?_,?_⟩,?_⟩;rotate_left;(focus (cbv;done));intro i hi;replace hi:0<=i/\i<=((os.length:Nat):Int)/\upto (cI (G3 os id)) i:=hi;obtain⟨i0,i1,i2⟩:=hi;cbv)|(refine ai (O.ar .add Za i 1) ?_ ?_ ?_;focus (cbv;done))
 all_goals(subst hO hr hF;(try simp only[nc]at*);(try simp only[am,SS,sa,az]at*);(try rw[di Uc Uc]))
 all_goals first
  | (show(_:List DV)=_
     first
      |exact cg (dB i2 i0 Ud (show G3 os id i=true from by assumption)).symm
      |exact cg (dL i2 Ud).symm
      |done)
  |omega
  |exact ga
  |(show(lk _ _).isSome=true;kernel_rfl)
  |exact bR
  |exact bL i2 (fE (show G3 os id i=false from by assumption))
  |done
abbrev Ma4:dq:=dP (fun F f=>match f with|146=>aW F|_=>fun _=>none) (by
 intro f;dsimp only;split;exact cd;exact dy)
def aP:EC:=fun F=>fun
 |[.one (.s 2 os),.fn 127 [[.v (.int Za id)]]]=>some (fun _=>Rw [tI,tI] os/\os.length<=1099511627776,[.k (F.rhB os id)])
 |_=>none
def bS:ec 126 aP:=by
 intro _ _ _ h hp;dsimp only[aP,F0]at h;split at h<;>cases h
 rename_i os id;refine cb Ma4 Tryz.func126 ?_
 intro O r F hO hr hF;cbv
 repeat' first|apply Zc|(apply cN<;>intro hb<;>cbv)
 all_goals(subst hO hr hF;(try simp only[nc]at*);(try simp only[am,SS,sa,az]at*))
 all_goals first
  | (show(_:List DV)=_
     first
      |exact au (k8 (by unfold rhB;simp only[SS,VI]))
      |done)
  |exact hp
  |done
abbrev Ma5:dq:=dP (fun F f=>match f with|126=>aP F|_=>fun _=>none) (by
 intro f;dsimp only;split;exact bS;exact dy)
def jr:EC:=fun F=>fun
 |[.one (.s 2 os),.one (.v (.int Za id))]=>some (fun _=>Rw [tI,tI] os/\os.length<=1099511627776,[.k (F.rhB os id)])
 |_=>none
def tK:ec 87 jr:=by
 intro _ _ _ h hp;dsimp only[jr,F0]at h;split at h<;>cases h
 rename_i os id;refine cb Ma5 Tryz.func87 ?_
 exact zq4
abbrev Ma6:dq:=dP (fun F f=>match f with|84=>eD F|_=>fun _=>none) (by
 intro f;dsimp only;split;exact iI;exact dy)
def jp:EC:=fun F=>fun
 |[.agg [.v (.int Za p1),.v (.int Za k1),.v (.int Za b1)],.agg [.v (.int Za p2),.v (.int Za k2),.v (.int Za b2)]]=>some (fun _=>True,[.k (F.mshB p1 k1 b1 p2 k2 b2)])
 |_=>none
def tH:ec 88 jp:=by
 intro _ _ _ h hp;dsimp only[jp,F0]at h;split at h<;>cases h
 rename_i p1 k1 b1 p2 k2 b2;refine cb Ma6 Tryz.func88 ?_
 intro O r F hO hr hF;cbv
 repeat' first|apply Zc|(apply cN<;>intro hb<;>cbv)
 all_goals(subst hO hr hF;(try simp only[nc]at*);(try simp only[am,SS,sa,az]at*))
 all_goals first|(show(_:List DV)=_;refine au ?_;unfold mshB;simp[*];done)|(show(_:List DV)=_;refine au ?_;unfold mshB;subst_vars;rw[cmp_eq];simp[*];done)|done
abbrev Ma7:dq:=dP (fun F f=>match f with|62=>cH F|_=>fun _=>none) (by
 intro f;dsimp only;split;exact cV;exact dy)
def iz:EC:=fun F=>fun
 |[.one (.s 3 qs)]=>some (fun _=>Rw [tI,tI,tI] qs/\qs.length<=1073741824,[.j (F.qcI qs)])
 |_=>none
def rK:ec 90 iz:=by
 intro _ _ _ h hp;dsimp only[iz,F0]at h;split at h<;>cases h
 rename_i qs;obtain⟨hw,hl⟩:=hp;refine cb Ma7 Tryz.func90 ?_
 intro O r F hO hr hF;cbv
 repeat' first|apply Zc|(apply cN<;>intro hb<;>cbv)|(refine⟨[3,6,7,8],[],Int×Int,fun s_=>match s_ with|(i,t)=>[.reg 8 (.j i),.reg 3 (.j t)],fun s_=>match s_ with|(i,t)=>0<=i/\i<=(qs.length:Int)/\MQ qs i t,fun s_=>match s_ with|(i,t)=>qs.length-i.toNat,⟨(0,0),?_,?_⟩,?_⟩;rotate_left;(focus (cbv;done));intro s_ hi;obtain⟨i,t⟩:=s_;replace hi:0<=i/\i<=(qs.length:Int)/\MQ qs i t:=hi;obtain⟨i0,i1,i2⟩:=hi;cbv)|(refine ai (O.ar .add Za i 1,O.ar .add Za t (F.clsSz (O.gi qs i 1))) ?_ ?_ ?_;focus (cbv;done))
 all_goals(subst hO hr hF;(try simp only[nc]at*);(try simp only[am,SS,sa,az]at*);(try rw[di Uc Uc]))
 all_goals first|(show(_:List DV)=_;exact cg (Pn i2 i1 Uc))|omega|exact ga|exact adj|exact aaf i2 i0 Uc|done
abbrev Ma8:dq:=dP (fun F f=>match f with|91=>dd F|128=>jz F|52=>ah F|_=>fun _=>none) (by
 intro f;dsimp only;split;exact dW;exact tT;exact be;exact dy)
def j8:EC:=fun F=>fun
 |[.one (.s 3 b),.agg [.v (.int Za a),.v (.int Za c),.v (.int Za s)]]=>some (fun _=>Rw [tI,tI,tI] b/\b.length<=1073741824,[.k (F.stlOk b a c s)])
 |_=>none
def uT:ec 89 j8:=by
 intro _ _ _ h hp;dsimp only[j8,F0]at h;split at h<;>cases h
 rename_i b a c s;obtain⟨hw,hl⟩:=hp;have hs:bK .sub Za (b.length:Int) 1=b.length-1:=fC Uc;refine cb Ma8 Tryz.func89 ?_
 intro O r F hO hr hF;cbv
 repeat' first|apply Zc|(apply cN<;>intro hb<;>cbv)
 all_goals(subst hO hr hF;(try simp only[nc]at*);(try simp only[am,SS,sa,az]at*);(try simp only[hs]at*))
 all_goals first|exact ga|(show ay _ _=true;kernel_rfl)|exact⟨hw,Uc⟩|(show(_:List DV)=_;refine au ?_;unfold stlOk;simp[*,cT];done)|(show(_:List DV)=_;refine au ?_;unfold stlOk;rw[VH (p:=0<=a) Uc];simp;done)|(show(_:List DV)=_;refine au ?_;unfold stlOk;rw[VH (p:=0<=s) Uc];simp;done)|(show(_:List DV)=_;refine au ?_;unfold stlOk;rw[VH (p:=b.length=0) Uc];simp[*,cT];done)|(show(_:List DV)=_;refine au ?_;unfold stlOk;simp_all;done)|done
abbrev Ma9:dq:=dP (fun F f=>match f with|19=>ah F|89=>j8 F|90=>iz F|52=>ah F|_=>fun _=>none) (by
 intro f;dsimp only;split;exact aw;exact uT;exact rK;exact be;exact dy)
def kO:EC:=fun F=>fun
 |[.agg [.v (.int Za rm),.s 3 qs]]=>some (fun _=>Rw [tI,tI,tI] qs/\qs.length<=1073741824,[.k (F.quarOk rm qs)])
 |_=>none
def wG:ec 45 kO:=by
 intro _ _ _ h hp;dsimp only[kO,F0]at h;split at h<;>cases h
 rename_i rm qs;obtain⟨hw,hl⟩:=hp;refine cb Ma9 Tryz.func45 ?_
 intro O r F hO hr hF;cbv
 repeat' first|apply Zc|(apply cN<;>intro hb<;>cbv)|(refine⟨[1,6,7,8],[1],Int,fun i=>[.reg 8 (.j i)],fun i=>0<=i/\i<=((qs.length:Nat):Int)/\upto (qtA qs) i,fun i=>(qs.length)-i.toNat,⟨0,?_,?_⟩,?_⟩;rotate_left;(focus (cbv;done));intro i hi;replace hi:0<=i/\i<=((qs.length:Nat):Int)/\upto (qtA qs) i:=hi;obtain⟨i0,i1,i2⟩:=hi;cbv)|(refine ai (O.ar .add Za i 1) ?_ ?_ ?_;focus (cbv;done))
 all_goals(subst hO hr hF;(try simp only[nc]at*);(try simp only[am,SS,sa,az]at*);(try rw[di Uc Uc]);(try simp only[CX]at*))
 all_goals first
  | (show(_:List DV)=_
     first
      |(refine au ?_;symm;exact aah i0 Ud Ud)
      |(refine au ?_;rw[Pp i2 Uc];simp[*,cT];done)
      |done)
  |omega
  |exact ga
  |(show ay _ _=true;kernel_rfl)
  |exact⟨hw,hl⟩
  |exact⟨Rw.take hw _,by rw[Zi];omega⟩
  |exact bR
  |exact bL i2 Ud
  |done
def kR:EC:=fun F=>fun
 |[.one (.v (.int Za c))]=>some (fun _=>True,[.k (F.inR c 0 15)])
 |_=>none
def wL:ec 134 kR:=by
 intro _ _ _ h hp;dsimp only[kR,F0]at h;split at h<;>cases h
 rename_i c;refine cb Ma0 Tryz.func134 ?_
 exact zq1
def fJ:EC:=fun F=>fun
 |[.one (.v (.int Za c))]=>some (fun _=>True,[.k (F.inR c 0 1073741823)])
 |_=>none
def kM:ec 49 fJ:=by
 intro _ _ _ h hp;dsimp only[fJ,F0]at h;split at h<;>cases h
 rename_i c;refine cb Ma0 Tryz.func49 ?_
 exact zq1
abbrev Mb1:dq:=dP (fun F f=>match f with|19=>ah F|134=>kR F|52=>ah F|_=>fun _=>none) (by
 intro f;dsimp only;split;exact aw;exact wL;exact be;exact dy)
def kN:EC:=fun F=>fun
 |[.agg [.v (.int Za k),.v (.int Za m),.s 1 cs]]=>some (fun _=>Rw [tI] cs/\cs.length<=1099511627776,[.k (F.plOk k m cs)])
 |_=>none
def wF:ec 98 kN:=by
 intro _ _ _ h hp;dsimp only[kN,F0]at h;split at h<;>cases h
 rename_i k m cs;obtain⟨hw,hl⟩:=hp;refine cb Mb1 Tryz.func98 ?_
 intro O r F hO hr hF;cbv
 repeat' first|apply Zc|(apply cN<;>intro hb<;>cbv)|(refine⟨[1,6,7,8],[1],Int,fun i=>[.reg 8 (.j i)],fun i=>0<=i/\i<=((cs.length:Nat):Int)/\upto (IV cs) i,fun i=>(cs.length)-i.toNat,⟨0,?_,?_⟩,?_⟩;rotate_left;(focus (cbv;done));intro i hi;replace hi:0<=i/\i<=((cs.length:Nat):Int)/\upto (IV cs) i:=hi;obtain⟨i0,i1,i2⟩:=hi;cbv)|(refine ai (O.ar .add Za i 1) ?_ ?_ ?_;focus (cbv;done))
 all_goals(subst hO hr hF;(try simp only[nc]at*);(try simp only[am,SS,sa,az]at*);(try rw[di Uc Uc]);(try have z:=Ig i0 Uc);(try simp only[z]at*))
 all_goals first
  | (show(_:List DV)=_
     first
      |(refine au ?_;symm;exact Pf i0 Ud Ud)
      |(refine au ?_;symm;exact Pg i0 Ud Uc Ud)
      |(refine au ?_;rw[HK i2 Uc];simp[*,cT];done)
      |(refine au ?_;rw[HK i2 Uc,Gl];simp[*];done)
      |(have q:false=true:=Ud;cases q)
      |done)
  |omega
  |exact ga
  |exact bR
  |exact bL i2 (Kv Ud Uc)
  |exact bL i2 (Kw Ud Ud)
  |done
abbrev Mb2:dq:=dP (fun F f=>match f with|98=>kN F|19=>ah F|52=>ah F|_=>fun _=>none) (by
 intro f;dsimp only;split;exact wF;exact aw;exact be;exact dy)
def lV:EC:=fun F=>fun
 |[.agg [.v (.int Za k),.v (.int Za m),.s 1 cs,.v (.int Za ph),.v (.int Za nx)]]=>some (fun _=>Rw [tI] cs/\cs.length<=1099511627776,[.k (F.jbOk k m cs ph nx)])
 |_=>none
def x6:ec 50 lV:=by
 intro _ _ _ h hp;dsimp only[lV,F0]at h;split at h<;>cases h
 rename_i k m cs ph nx;refine cb Mb2 Tryz.func50 ?_
 intro O r F hO hr hF;cbv
 repeat' first|apply Zc|(apply cN<;>intro hb<;>cbv)
 all_goals(subst hO hr hF;(try simp only[nc]at*);(try simp only[am,SS,sa,az]at*))
 all_goals first|exact hp|(show(_:List DV)=_;refine au ?_;unfold jbOk;simp[*];done)|done
abbrev Mb3:dq:=dP (fun F f=>match f with|91=>dd F|19=>ah F|62=>cH F|52=>ah F|_=>fun _=>none) (by
 intro f;dsimp only;split;exact dW;exact aw;exact cV;exact be;exact dy)
def gy:EC:=fun F=>fun
 |[.agg [.s 1 ls]]=>some (fun _=>MN ls,[.k (F.caOk ls)])
 |_=>none
def nh:ec 46 gy:=by
 intro _ _ _ h hp;dsimp only[gy,F0]at h;split at h<;>cases h
 rename_i ls;have hw:=hp.w;have hl:=hp.l;have hn:=hp.n;refine cb Mb3 Tryz.func46 ?_
 intro O r F hO hr hF;cbv
 repeat' first|apply Zc|(apply cN<;>intro hb<;>cbv)|(refine⟨[1,3,10,11,12],[1,8],Int×af,fun s_=>match s_ with|(i,es)=>[.reg 12 (.j i),.leaf 8 0 ⟨0,0,none,.own (.m true es)⟩],fun s_=>match s_ with|(i,es)=>0<=i/\i<=(ls.length:Int)/\BB ls i es,fun s_=>match s_ with|(i,es)=>ls.length-i.toNat,⟨(0,[]),?_,?_⟩,?_⟩;rotate_left;(focus (cbv;done));intro s_ hi;obtain⟨i,es⟩:=s_;replace hi:0<=i/\i<=(ls.length:Int)/\BB ls i es:=hi;obtain⟨i0,i1,i2⟩:=hi;cbv)|(refine⟨[1,3,4,10,11,12,25,26,27],[1,8],Int×af,fun s_=>match s_ with|(k,es1)=>[.reg 27 (.j k),.leaf 8 0 ⟨0,0,none,.own (.m true es1)⟩],fun s_=>match s_ with|(k,es1)=>0<=k/\k<=((aO ls i 0).length:Int)/\BC ls i k es1,fun s_=>match s_ with|(k,es1)=>(aO ls i 0).length-k.toNat,⟨(0,es),?_,?_⟩,?_⟩;rotate_left;(focus (cbv;done));intro s_ hk;obtain⟨k,es1⟩:=s_;replace hk:0<=k/\k<=((aO ls i 0).length:Int)/\BC ls i k es1:=hk;obtain⟨k0,k1,k2⟩:=hk;cbv)|(refine ai (O.ar .add Za k 1,O.mu es1 (O.gi (O.gs ls i 0) k 0) (.v (.bool true))) ?_ ?_ ?_;focus (cbv;done))|(refine ai (O.ar .add Za i 1,es1) ?_ ?_ ?_;focus (cbv;done))
 all_goals(subst hO hr hF;(try simp only[nc]at*);(try simp only[am,SS,sa,az]at*);(try rw[di Uc Uc]);(try have z6:bK .add Za k 1=k+1:=cu (by have:=hn i;omega));(try simp only[z6]at*);(try have w2:=hp.el i0 Uc);(try have w3:=w2.1);(try have w4:=k2.p.l))
 all_goals first
  | (show(_:List DV)=_
     first
      |(refine au ?_;exact M0 i2.p i1 Uc)
      |(refine au ?_;symm;exact JS i2 i0 Uc Ud)
      |(refine au ?_;symm;exact JU i2 i0 Ud Ud)
      |(refine au ?_;symm;exact F8 i0 Uc k0 Ud (Q3 Ud))
      |(refine au ?_;symm;exact F8 i0 Uc k0 Ud (Q4 Ud))
      |(refine au ?_;symm;exact JV k2 i0 k0 Ud Ud)
      |done)
  |omega
  |exact ga
  |(have c:=(lq (bB.2 (by omega:0<=i/\i<=3))).1;omega)
  |exact NY k2 k0 Ud Ud Ud
  |exact NX k2 i0 k1 Uc
  |exact Sk i2 i0 Ud Uc
  |exact Sj
  |done
def jC:EC:=fun F=>fun
 |[.agg [.v (.int Za d0),.v (.int Za d1),.v (.int Za d2),.v (.int Za d3)],.ptr [.v (.int Za e0),.v (.int Za e1),.v (.int Za e2),.v (.int Za e3)]]=>some (fun _=>True,[.k (F.eqB d0 e0)])
 |_=>none
def tW:ec 93 jC:=by
 intro _ _ _ h hp;dsimp only[jC,F0]at h;split at h<;>cases h
 rename_i d0 d1 d2 d3 e0 e1 e2 e3;refine cb nB Tryz.func93 ?_
 exact zq3
abbrev Na1:dq:=dP (fun F f=>match f with|93=>jC F|_=>fun _=>none) (by
 intro f;dsimp only;split;exact tW;exact dy)
def aY:EC:=fun F=>fun
 |[.one (.s 4 os),.fn 93 [[.v (.int Za e0),.v (.int Za e1),.v (.int Za e2),.v (.int Za e3)]]]=>some (fun _=>Rw [tI,tI,tI,tI] os/\os.length<=1099511627776,[.j (F.oiI os e0)])
 |_=>none
def cn:ec 36 aY:=by
 intro _ _ _ h hp;dsimp only[aY,F0]at h;split at h<;>cases h
 rename_i os e0 e1 e2 e3;obtain⟨hw,hn⟩:=hp;refine cb Na1 Tryz.func36 ?_
 intro O r F hO hr hF;cbv
 repeat' first|apply Zc|(apply cN<;>intro hb<;>cbv)|(refine⟨[0,1,7,8],[0],Int,fun i=>[.reg 8 (.j i)],fun i=>0<=i/\i<=((os.length:Nat):Int)/\upto (cI (wR os e0)) i,fun i=>(os.length)-i.toNat,⟨0,?_,?_⟩,?_⟩;rotate_left;(focus (cbv;done));intro i hi;replace hi:0<=i/\i<=((os.length:Nat):Int)/\upto (cI (wR os e0)) i:=hi;obtain⟨i0,i1,i2⟩:=hi;cbv)|(refine ai (O.ar .add Za i 1) ?_ ?_ ?_;focus (cbv;done))
 all_goals(subst hO hr hF;(try simp only[nc]at*);(try simp only[am,SS,sa,az]at*);(try rw[di Uc Uc]))
 all_goals first
  | (show(_:List DV)=_
     first
      |exact cg (dB i2 i0 Ud (show wR os e0 i=true from by assumption)).symm
      |exact cg (dL i2 Ud).symm
      |done)
  |omega
  |exact ga
  |(show(lk _ _).isSome=true;kernel_rfl)
  |exact bR
  |exact bL i2 (fE (show wR os e0 i=false from by assumption))
  |done
abbrev Na2:dq:=dP (fun F f=>match f with|36=>aY F|_=>fun _=>none) (by
 intro f;dsimp only;split;exact cn;exact dy)
def aU:EC:=fun F=>fun
 |[.one (.s 4 os),.fn 93 [[.v (.int Za e0),.v (.int Za e1),.v (.int Za e2),.v (.int Za e3)]]]=>some (fun _=>Rw [tI,tI,tI,tI] os/\os.length<=1099511627776,[.k (F.oiB os e0)])
 |_=>none
def bV:ec 92 aU:=by
 intro _ _ _ h hp;dsimp only[aU,F0]at h;split at h<;>cases h
 rename_i os e0 e1 e2 e3;refine cb Na2 Tryz.func92 ?_
 intro O r F hO hr hF;cbv
 repeat' first|apply Zc|(apply cN<;>intro hb<;>cbv)
 all_goals(subst hO hr hF;(try simp only[nc]at*);(try simp only[am,SS,sa,az]at*))
 all_goals first
  | (show(_:List DV)=_
     first
      |exact au (k8 (by unfold oiB;simp only[SS,VI]))
      |done)
  |exact hp
  |done
abbrev Na3:dq:=dP (fun F f=>match f with|19=>ah F|92=>aU F|94=>gL F|24=>eU F|52=>ah F|_=>fun _=>none) (by
 intro f;dsimp only;split;exact aw;exact bV;exact nj;exact jP;exact be;exact dy)
def kS:EC:=fun F=>fun
 |[.agg hl_]=>hL hl_ fun a0 a1 a2 a3 a4 a5 a6 a7 a8 a9 aA aB aC aD aE aF aG aH aI aJ aK aL aM aN=>(fun _=>NsH a6 a7 a8 a9 aA aB aD/\layOk a6 a7=true,[.k (F.objOk a6 a7 a8 a9 aH)])
 |_=>none
def wM:ec 47 kS:=by
 intro _ _ _ h hp;dsimp only[kS,F0,hL]at h;split at h;rotate_left;cases h;split at h<;>cases h
 rename_i a0 a1 a2 a3 a4 a5 a6 a7 a8 a9 aA aB aC aD aE aF aG aH aI aJ aK aL aM aN;obtain⟨N,hlay⟩:=hp;have how:=N.ow;have hol:=N.ol;have hsw:=N.sw;have hlw:=N.lw;have hsl:=N.sl;have hll:=N.ll;have hcl:=N.cl;have hlc:=bj (es:=a9);have hsb:bK .sub Za (a9.length:Int) 1=a9.length-1:=fC Uc;refine cb Na3 Tryz.func47 ?_
 intro O r F hO hr hF;cbv
 repeat' first|apply Zc|(apply cN<;>intro hb<;>cbv)|(refine⟨[1,9,10,11],[1],Int,fun i=>[.reg 11 (.j i)],fun i=>0<=i/\i<=((a8.length:Nat):Int)/\upto (yG a6 a7 a8 a9 aH) i,fun i=>(a8.length)-i.toNat,⟨0,?_,?_⟩,?_⟩;rotate_left;(focus (cbv;done));intro i hi;replace hi:0<=i/\i<=((a8.length:Nat):Int)/\upto (yG a6 a7 a8 a9 aH) i:=hi;obtain⟨i0,i1,i2⟩:=hi;cbv)|(refine ai (O.ar .add Za i 1) ?_ ?_ ?_;focus (cbv;done))
 all_goals(subst hO hr hF;(try simp only[nc]at*);(try simp only[am,SS,sa,az]at*);(try rw[di Uc Uc]);(try have z:=Ig i0 Uc);(try simp only[z,hsb,CX]at*);(try have d1:=fun h=>Gr (sp:=a6) (lg:=a7) (a:=ag a8 i 1) h);(try have d3:=fun h=>Rt (sp:=a6) (lg:=a7) (a:=ag a8 i 1) h))
 all_goals first
  |(exfalso;omega)
  | (show(_:List DV)=_
     first
      |(refine au ?_;symm;exact xA i0 Ud (TF Ud Ud))
      |(refine au ?_;symm;exact xA i0 Ud (TG Ud))
      |(refine au ?_;symm;exact xA i0 Ud (TH Ud))
      |(refine au ?_;symm;exact xA i0 Ud (TJ Ud))
      |(refine au ?_;symm;exact xA i0 Ud (LZ (TP Ud)))
      |(refine au ?_;symm;exact xA i0 Ud (LZ (ac9 (by first|exact .inl Ud|exact .inr Ud|exact .inl Uc) (by first|exact .inl Ud|exact .inr Ud|exact .inl Uc))))
      |(refine au ?_;symm;exact O0 i2 Uc)
      |(have q:false=true:=Ud;cases q)
      |done)
  |omega
  |exact ga
  |(show ay _ _=true;kernel_rfl)
  |exact⟨hsw,hlw⟩
  |exact⟨Rw.take how _,by rw[Zi];omega⟩
  |exact bR
  |exact bL i2 (TK (by first|exact .inl Uc|exact .inr Ud) Ud Ud Ud (TQ Ud Ud Ud))
  |exact bL i2 (TK (by first|exact .inl Uc|exact .inr Ud) Ud Ud Ud (TR Ud Ud Ud))
  |(have q:false=true:=Ud;cases q)
  |done
abbrev Oa1:dq:=dP (fun F f=>match f with|94=>gL F|_=>fun _=>none) (by
 intro f;dsimp only;split;exact nj;exact dy)
def fZ:EP:=fun F=>fun
 |[.one (.v (.int Za ad)),.one (.v (.int Za k)),.mp [.own (.m false es)],.mp [.ro (.s 1 a0),.ro (.s 1 a1),.ro (.s 2 a2),.own (.v (.int Za a3)),.ro (.s 1 a4),.ro (.s 2 a5),.ro (.s 3 a6),.ro (.s 3 a7),.ro (.s 4 a8),.ro (.s 1 a9),.ro (.s 1 aA),.ro (.s 1 aB),.own (.v (.int Za aC)),.ro (.s 3 aD),.own (.v (.int Za aE)),.own (.v (.int Za aF)),.own (.v (.int Za aG)),.own (.v (.int Za aH)),.own (.v (.bool aI)),.own (.v (.int Za aJ)),.own (.v (.int Za aK)),.ro (.s 1 aL),.own (.v (.int Za aM)),.own (.v (.int Za aN))]]=>some (fun _=>Rw [tI,tI,tI] a6/\Rw [tI,tI,tI] a7,[[.own (.m false (F.huI es ad))],[.ro (.s 1 a0),.ro (.s 1 a1),.ro (.s 2 a2),.own (.i a3),.ro (.s 1 a4),.ro (.s 2 a5),.ro (.s 3 a6),.ro (.s 3 a7),.ro (.s 4 a8),.ro (.s 1 a9),.ro (.s 1 aA),.ro (.s 1 aB),.own (.i aC),.ro (.s 3 aD),.own (.i aE),.own (.i aF),.own (.i aG),.own (.i aH),.own (.v (.bool aI)),.own (.i aJ),.own (.i aK),.ro (.s 1 aL),.own (.i aM),.own (.i aN)]],[.k (F.hlB a6 a7 ad k)])
 |_=>none
def pp:ep 95 fZ:=by
 intro _ _ _ _ h hp;dsimp only[fZ,F0]at h;split at h<;>cases h
 rename_i ad k es a0 a1 a2 a3 a4 a5 a6 a7 a8 a9 aA aB aC aD aE aF aG aH aI aJ aK aL aM aN;obtain⟨hsw,hlw⟩:=hp;refine pb Oa1 Tryz.func95 ?_
 intro O r os F hO hr hos hF;cbv
 repeat' first|apply Zc|(apply cN<;>intro hb<;>cbv)
 all_goals((try subst hos);subst hO hr hF;(try simp only[nc]at*);(try simp only[am,SS,sa,az]at*);(try have d1:=fun h=>Gr (sp:=a6) (lg:=a7) (a:=ad) h))
 all_goals first|(show(_:List DV)=_;refine au ?_;unfold hlB;simp[*];done)|(show(_:List DV)=_;refine au ?_;unfold hlB;rw[VH (p:=k<0) Uc,cmp_eq];simp[*];done)|(show(_:List H)=_;exact rfl)|exact⟨hsw,hlw⟩|(have e:=d1 Ud;exact ga)|done
abbrev Oa2:dq:={
 Φ:=wC
 F0:=F0
 ct:=fun F f=>match f with|96=>jo F|97=>ip F|_=>fun _=>none
 hc:=(by
  intro f;dsimp only;split;exact tG;exact rE;exact dy)
 pt:=fun F f=>match f with|95=>some (fZ F)|_=>none
 hp:=(by
  intro f mk h;dsimp only at h;split at h<;>cases h
  exact pp)}
def iy:EC:=fun F=>fun
 |[.agg hl_]=>hL hl_ fun a0 a1 a2 a3 a4 a5 a6 a7 a8 a9 aA aB aC aD aE aF aG aH aI aJ aK aL aM aN=>(fun _=>NsH a6 a7 a8 a9 aA aB aD/\layOk a6 a7=true,[.k (F.hoI a6 a7 a8 a9 aA aB aD aF)])
 |_=>none
def rJ:ec 48 iy:=by
 intro _ _ _ h hp;dsimp only[iy,F0,hL]at h;split at h;rotate_left;cases h;split at h<;>cases h
 rename_i a0 a1 a2 a3 a4 a5 a6 a7 a8 a9 aA aB aC aD aE aF aG aH aI aJ aK aL aM aN;obtain⟨N,hlay⟩:=hp;have hsw:=N.sw;have hlw:=N.lw;have hsl:=N.sl;have hll:=N.ll;have how:=N.ow;have hol:=N.ol;have hcw:=N.cw;have hcl:=N.cl;have hqw:=N.qw;have hql:=N.ql;have hcc:=N.c;have hlc:=bj (es:=a9);have hfr:=Sl N.m;have hfl:=NZ (b:=aA) (x:=aB);have hlr:=SN (sp:=a6) (lg:=a7);have hla:=G8 (sp:=a6) (lg:=a7);refine cb Oa2 Tryz.func48 ?_
 intro O r F hO hr hF;cbv
 repeat' first|apply Zc|(apply cN<;>intro hb<;>cbv)|(refine⟨[1,3,4,22,23,24],[1,3],Int×af,fun s_=>match s_ with|(i,es)=>[.reg 24 (.j i),.leaf 3 0 ⟨0,0,none,.own (.m false es)⟩],fun s_=>match s_ with|(i,es)=>0<=i/\i<=(a9.length:Int)/\Qg a6 a7 a9 i es,fun s_=>match s_ with|(i,es)=>a9.length-i.toNat,⟨(0,[]),?_,?_⟩,?_⟩;rotate_left;(focus (cbv;done));intro s_ hi;obtain⟨i,es⟩:=s_;replace hi:0<=i/\i<=(a9.length:Int)/\Qg a6 a7 a9 i es:=hi;obtain⟨i0,i1,i2⟩:=hi;cbv)|(refine⟨[1,3,4,22,23,24,29,30,31],[1,3],Int×af,fun s_=>match s_ with|(k,es1)=>[.reg 31 (.j k),.leaf 3 0 ⟨0,0,none,.own (.m false es1)⟩],fun s_=>match s_ with|(k,es1)=>0<=k/\k<=((aO a9 i 0).length:Int)/\Qi a6 a7 a9 i k es1,fun s_=>match s_ with|(k,es1)=>(aO a9 i 0).length-k.toNat,⟨(0,es),?_,?_⟩,?_⟩;rotate_left;(focus (cbv;done));intro s_ hk;obtain⟨k,es1⟩:=s_;replace hk:0<=k/\k<=((aO a9 i 0).length:Int)/\Qi a6 a7 a9 i k es1:=hk;obtain⟨k0,k1,k2⟩:=hk;cbv)|(refine⟨[1,3,4,7,22,23,24,29,30,31,36,37,38],[1,3],Int×af,fun s_=>match s_ with|(j,es2)=>[.reg 38 (.j j),.leaf 3 0 ⟨0,0,none,.own (.m false es2)⟩],fun s_=>match s_ with|(j,es2)=>0<=j/\j<=((aO (aO a9 i 0) k 0).length:Int)/\Qh a6 a7 a9 i k j es2,fun s_=>match s_ with|(j,es2)=>(aO (aO a9 i 0) k 0).length-j.toNat,⟨(0,es1),?_,?_⟩,?_⟩;rotate_left;(focus (cbv;done));intro s_ hj;obtain⟨j,es2⟩:=s_;replace hj:0<=j/\j<=((aO (aO a9 i 0) k 0).length:Int)/\Qh a6 a7 a9 i k j es2:=hj;obtain⟨j0,j1,j2⟩:=hj;cbv)|(refine⟨[1,3,4,52,53,54],[1,3],Int×af,fun s_=>match s_ with|(q,es3)=>[.reg 54 (.j q),.leaf 3 0 ⟨0,0,none,.own (.m false es3)⟩],fun s_=>match s_ with|(q,es3)=>0<=q/\q<=(aD.length:Int)/\Qj a6 a7 a9 aD aF q es3,fun s_=>match s_ with|(q,es3)=>aD.length-q.toNat,⟨(0,es),?_,?_⟩,?_⟩;rotate_left;(focus (cbv;done));intro s_ hq;obtain⟨q,es3⟩:=s_;replace hq:0<=q/\q<=(aD.length:Int)/\Qj a6 a7 a9 aD aF q es3:=hq;obtain⟨q0,q1,q2⟩:=hq;cbv)|(refine⟨[1,3,4,75,76,77],[1,3,75],Int×af,fun s_=>match s_ with|(f,es4)=>[.reg 77 (.j f),.leaf 3 0 ⟨0,0,none,.own (.m false es4)⟩],fun s_=>match s_ with|(f,es4)=>0<=f/\f<=((ifL aA aB).length:Int)/\Qf a6 a7 a9 aD (ifL aA aB) aF f es4,fun s_=>match s_ with|(f,es4)=>(ifL aA aB).length-f.toNat,⟨(0,es3),?_,?_⟩,?_⟩;rotate_left;(focus (cbv;done));intro s_ hf;obtain⟨f,es4⟩:=s_;replace hf:0<=f/\f<=((ifL aA aB).length:Int)/\Qf a6 a7 a9 aD (ifL aA aB) aF f es4:=hf;obtain⟨f0,f1,f2⟩:=hf;cbv)|(refine⟨[1,3,87,88,89],[1,3],Int×af,fun s_=>match s_ with|(p,es5)=>[.reg 89 (.j p),.leaf 3 0 ⟨0,0,none,.own (.m false es5)⟩],fun s_=>match s_ with|(p,es5)=>0<=p/\p<=(a8.length:Int)/\MF a6 a7 a8 a9 aD (ifL aA aB) aF p es5,fun s_=>match s_ with|(p,es5)=>a8.length-p.toNat,⟨(0,es4),?_,?_⟩,?_⟩;rotate_left;(focus (cbv;done));intro s_ hp;obtain⟨p,es5⟩:=s_;replace hp:0<=p/\p<=(a8.length:Int)/\MF a6 a7 a8 a9 aD (ifL aA aB) aF p es5:=hp;obtain⟨p0,p1,p2⟩:=hp;cbv)|(refine⟨[3,103,104,105],[3,103],Int×af,fun s_=>match s_ with|(t,es6)=>[.reg 105 (.j t),.leaf 3 0 ⟨0,0,none,.own (.m false es6)⟩],fun s_=>match s_ with|(t,es6)=>0<=t/\t<=((iaL a6 a7).length:Int)/\K8 a6 a7 a8 a9 aD (ifL aA aB) aF t es6,fun s_=>match s_ with|(t,es6)=>(iaL a6 a7).length-t.toNat,⟨(0,es5),?_,?_⟩,?_⟩;rotate_left;(focus (cbv;done));intro s_ ht;obtain⟨t,es6⟩:=s_;replace ht:0<=t/\t<=((iaL a6 a7).length:Int)/\K8 a6 a7 a8 a9 aD (ifL aA aB) aF t es6:=ht;obtain⟨t0,t1,t2⟩:=ht;cbv)|(refine ai (O.ar .add Za j 1,F.huI es2 (O.gi (O.gs (O.gs a9 i 0) k 0) j 0)) ?_ ?_ ?_;focus (cbv;done))|(refine ai (O.ar .add Za k 1,es2) ?_ ?_ ?_;focus (cbv;done))|(refine ai (O.ar .add Za i 1,es1) ?_ ?_ ?_;focus (cbv;done))|(refine ai (O.ar .add Za t 1,es6) ?_ ?_ ?_;focus (cbv;done))|(refine ai (O.ar .add Za p 1,O.mu es5 (O.gi a8 p 1) (.i (O.ar .add Za (O.mgi es5 (O.gi a8 p 1)) 1))) ?_ ?_ ?_;focus (cbv;done))|(refine ai (O.ar .add Za f 1,F.huI es4 (O.pi (.s 1 (F.ifL aA aB)) [(O.ad 0 f,0)])) ?_ ?_ ?_;focus (cbv;done))|(refine ai (O.ar .add Za q 1,F.huI es3 (O.gi aD q 0)) ?_ ?_ ?_;focus (cbv;done))
 all_goals(subst hO hr hF;(try simp only[nc]at*);(try simp only[am,SS,sa,az]at*);(try rw[di Uc Uc]);(try simp only[CJ f0]at*);(try simp only[CJ t0,Kf]at*);(try have z8:bK .add Za t 1=t+1:=cu Uc);(try simp only[z8]at*);(try have w6:=hcc.n i i0 Ud);(try have w7:=w6.el k0 Ud);(try have w8:=w7.1);(try have z6:bK .add Za k 1=k+1:=cu (by have:=w6.l;omega));(try simp only[z6]at*);(try have z7:bK .add Za j 1=j+1:=cu (by have:=w7.2;omega));(try simp only[z7]at*))
 all_goals first
  | (show(_:List DV)=_
     first
      |(refine au ?_;symm;exact NM i0 Ud (aco k0 Ud j0 Ud Ud))
      |(refine au ?_;symm;exact GO q0 Ud (aai Ud))
      |(refine au ?_;symm;exact GO q0 Ud (aaj Ud))
      |(refine au ?_;symm;exact NN f0 Ud Ud)
      |(refine au ?_;symm;exact ab2 t2 t0 Ud Ud)
      |(refine au ?_;symm;exact NI t2 Uc)
      |done)
  |omega
  |exact ga
  |exact⟨hsw,hlw⟩
  |exact⟨hsw,hlw,hsl,hll⟩
  |exact N.m
  |exact L1 hfr f0 Ud
  |exact L1 hlr t0 Ud
  |exact R2 j2 i0 Ud k0 Ud j0 Ud hcl Ud
  |exact R3 j2 k0 j1 Uc
  |exact R1 k2 i0 k1 Uc
  |exact abZ k2
  |exact ab0 i2
  |exact abY
  |exact ack i2 i1 Uc
  |exact Sc q2 q0 Ud hcl hql (adl Ud Uc)
  |exact abX q2 q1 Uc
  |exact R0 f2 f0 Ud hcl hql hfl Ud
  |exact ab5 f2 f1 Uc
  |exact R7 p2 p0 Ud hcl hql hol hfl
  |exact ab1 p2 p1 Uc
  |exact R5 t2 Ud
  |done
abbrev Pa0:dq:=dP (fun F f=>match f with|77=>cO F|_=>fun _=>none) (by
 intro f;dsimp only;split;exact dx;exact dy)
def fG:EC:=fun F=>fun
 |[.agg [.s 1 a0,.s 1 a1,.s 2 a2,.v (.int Za a3),.s 1 a4],.one (.v (.int Za p))]=>some (fun _=>Rw [tI,tI] a2,[.k (F.mapB a2 p)])
 |_=>none
def kL:ec 86 fG:=by
 intro _ _ _ h hp;dsimp only[fG,F0]at h;split at h<;>cases h
 rename_i a0 a1 a2 a3 a4 p;refine cb Pa0 Tryz.func86 ?_
 intro O r F hO hr hF;cbv
 repeat' first|apply Zc|(apply cN<;>intro hb<;>cbv)
 all_goals(subst hO hr hF;(try simp only[nc]at*);(try simp only[am,SS,sa,az]at*))
 all_goals first|(show(_:List DV)=_;refine au ?_;unfold mapB;rw[Gl];done)|exact hp|done
abbrev Pa1:dq:=dP (fun F f=>match f with|85=>eO F|86=>fG F|87=>jr F|77=>cO F|88=>jp F|_=>fun _=>none) (by
 intro f;dsimp only;split;exact kD;exact kL;exact tK;exact dx;exact tH;exact dy)
def j6:EC:=fun F=>fun
 |[.agg hl_]=>hL hl_ fun a0 a1 a2 a3 a4 a5 a6 a7 a8 a9 aA aB aC aD aE aF aG aH aI aJ aK aL aM aN=>(fun _=>NsH a6 a7 a8 a9 aA aB aD/\layOk a6 a7=true/\Rw [tI,tI] a2/\a2.length<=1099511627776/\Rw [tI,tI] a5/\a5.length<=1099511627776,[.k (F.pgI a2 a5 a6 a7)])
 |_=>none
def uQ:ec 43 j6:=by
 intro _ _ _ h hp;dsimp only[j6,F0,hL]at h;split at h;rotate_left;cases h;split at h<;>cases h
 rename_i a0 a1 a2 a3 a4 a5 a6 a7 a8 a9 aA aB aC aD aE aF aG aH aI aJ aK aL aM aN;obtain⟨N,hlay,hew,hel,hfw,hfl⟩:=hp;have hsw:=N.sw;have hlw:=N.lw;have hsl:=N.sl;have hll:=N.ll;have F:=OA hlay;have lgF:∀ j:Int,0<=j->j<a7.length->0<=ag a7 j 0/\1<=ag a7 j 1/\ag a7 j 0+ag a7 j 1<=32:=fun j h0 h1=>by
  have t:=lC (F.l j.toNat Uc);rw[Int.toNat_of_nonneg h0]at t;have b:=m8 t.1;omega
 refine cb Pa1 Tryz.func43 ?_
 intro O r F hO hr hF;cbv
 repeat' first|apply Zc|(apply cN<;>intro hb<;>cbv)|(refine⟨[1,18,19,20],[1],Int,fun i=>[.reg 20 (.j i)],fun i=>0<=i/\i<=(a6.length:Int)/\upto (zS a6) i,fun i=>a6.length-i.toNat,⟨0,?_,?_⟩,?_⟩;rotate_left;(focus (cbv;done));intro i hi;replace hi:0<=i/\i<=(a6.length:Int)/\upto (zS a6) i:=hi;obtain⟨i0,i1,i2⟩:=hi;cbv)|(refine⟨[1,5,42,43,44],[1,40],Int×af,fun s_=>match s_ with|(q,m)=>[.reg 44 (.j q),.leaf 40 0 ⟨0,0,none,.own (.m true m)⟩],fun s_=>match s_ with|(q,m)=>0<=q/\q<=(a6.length:Int)/\uz m (lP a6 q.toNat),fun s_=>match s_ with|(q,m)=>a6.length-q.toNat,⟨(0,[]),?_,?_⟩,?_⟩;rotate_left;(focus (cbv;done));intro s_ hq;obtain⟨q,m⟩:=s_;replace hq:0<=q/\q<=(a6.length:Int)/\uz m (lP a6 q.toNat):=hq;obtain⟨q0,q1,q2⟩:=hq;cbv)|(refine⟨[1,5,53,54,55],[1,40],Int×af,fun s_=>match s_ with|(j,m1)=>[.reg 55 (.j j),.leaf 40 0 ⟨0,0,none,.own (.m true m1)⟩],fun s_=>match s_ with|(j,m1)=>0<=j/\j<=(a7.length:Int)/\Qo a2 a6 a7 j m1,fun s_=>match s_ with|(j,m1)=>a7.length-j.toNat,⟨(0,m),?_,?_⟩,?_⟩;rotate_left;(focus (cbv;done));intro s_ hj;obtain⟨j,m1⟩:=s_;replace hj:0<=j/\j<=(a7.length:Int)/\Qo a2 a6 a7 j m1:=hj;obtain⟨j0,j1,j2⟩:=hj;cbv)|(refine⟨[1,5,9,10,53,54,55],[1,40,9],Int×af,fun s_=>match s_ with|(p,m2)=>[.reg 10 (.j p),.leaf 40 0 ⟨0,0,none,.own (.m true m2)⟩],fun s_=>match s_ with|(p,m2)=>ag a7 j 0<=p/\p<=ag a7 j 0+ag a7 j 1/\Qn a2 a6 a7 j (p-ag a7 j 0) m2,fun s_=>match s_ with|(p,m2)=>(ag a7 j 0+ag a7 j 1-p).toNat,⟨(O.gi a7 j 0,m1),?_,?_⟩,?_⟩;rotate_left;(focus (cbv;done));intro s_ hp;obtain⟨p,m2⟩:=s_;replace hp:ag a7 j 0<=p/\p<=ag a7 j 0+ag a7 j 1/\Qn a2 a6 a7 j (p-ag a7 j 0) m2:=hp;obtain⟨p0,p1,p2⟩:=hp;cbv)|(refine⟨[1,5,98,99],[1,40],Int,fun e=>[.reg 99 (.j e)],fun e=>0<=e/\e<=(a2.length:Int)/\upto (FE a2 a5 a6 a7) e,fun e=>a2.length-e.toNat,⟨0,?_,?_⟩,?_⟩;rotate_left;(focus (cbv;done));intro e he;replace he:0<=e/\e<=(a2.length:Int)/\upto (FE a2 a5 a6 a7) e:=he;obtain⟨e0,e1,e2⟩:=he;cbv)|(refine⟨[1,122],[1],List Int,fun vs=>[.reg 122 (.one (.it m1 vs))],fun vs=>True/\∀ k∈vs,k<(a2.length:Int),fun vs=>m1.length-vs.length,⟨[],?_,?_⟩,?_⟩;rotate_left;(focus (cbv;done));intro vs tY;replace tY:True/\∀ k∈vs,k<(a2.length:Int):=tY;obtain⟨vs0,vs1⟩:=tY;cbv)|(refine⟨[1,136,137,138],[1],Int,fun u=>[.reg 138 (.j u)],fun u=>0<=u/\u<=(a6.length:Int)/\upto (IR a2 a6) u,fun u=>a6.length-u.toNat,⟨0,?_,?_⟩,?_⟩;rotate_left;(focus (cbv;done));intro u hu;replace hu:0<=u/\u<=(a6.length:Int)/\upto (IR a2 a6) u:=hu;obtain⟨u0,u1,u2⟩:=hu;cbv)|(refine⟨[1,14,136,137,138,146,147,148],[1,14],Int,fun v=>[.reg 148 (.j v)],fun v=>0<=v/\v<=u/\upto (IQ a2 a6 u) v,fun v=>(u-v).toNat,⟨0,?_,?_⟩,?_⟩;rotate_left;(focus (cbv;done));intro v hv;replace hv:0<=v/\v<=u/\upto (IQ a2 a6 u) v:=hv;obtain⟨v0,v1,v2⟩:=hv;cbv)|(refine ai (O.ar .add Za p 1,O.mu m2 p (.v (.bool true))) ?_ ?_ ?_;focus (cbv;done))|(refine ai (O.ar .add Za j 1,m2) ?_ ?_ ?_;focus (cbv;done))|(refine ai (O.ar .add Za q 1,O.mu m (O.gi a6 q 0) (.v (.bool true))) ?_ ?_ ?_;focus (cbv;done))|(refine ai (O.ar .add Za v 1) ?_ ?_ ?_;focus (cbv;done))|(refine ai (O.ar .add Za u 1) ?_ ?_ ?_;focus (cbv;done))|(refine ai (O.ar .add Za e 1) ?_ ?_ ?_;focus (cbv;done))|(refine ai (O.ar .add Za i 1) ?_ ?_ ?_;focus (cbv;done))|(refine ai (kk::vs) ?_ ?_ ?_;focus (cbv;done))|((intro(kk:Int) (hkk:O.pr _);cbv))|((intro(hkk:O.pr _);cbv))
 all_goals(subst hO hr hF;(try simp only[nc]at*);(try simp only[am,SS,sa,az]at*);(try rw[di Uc Uc]);(try have zi:=Ig i0 Uc);(try simp only[zi]at*);(try have zj:=Ig j0 Uc);(try simp only[zj]at*);(try have lf:=lgF j j0 Ud);(try have zl:bK .add Za (ag a7 j 0) (ag a7 j 1)=ag a7 j 0+ag a7 j 1:=cu Uc);(try simp only[zl]at*);(try have zp:bK .add Za p 1=p+1:=cu Uc);(try simp only[zp]at*);(try have zv:bK .add Za v 1=v+1:=cu Uc);(try simp only[zv]at*);(try simp only[TV (Ph j2 j1 Ud)]at*);(try simp only[CX]at*);(try have tl:(List.take u.toNat a6).length=u.toNat:=by(rw[Zi];omega));(try have hwt:=Rw.take hsw u.toNat);(try simp only[JQ (es:=a6) (n:=u.toNat) (i:=v) Uc]at*))
 all_goals first
  | (show(_:List DV)=_
     first
      |(refine au ?_;symm;exact T7 i0 Ud (Mi Ud Ud))
      |(refine au ?_;symm;exact L3 j0 Ud (SO (Mi Ud Ud)))
      |(refine au ?_;symm;exact L3 j0 Ud (aab p0 Ud Uc))
      |(refine au ?_;symm;exact L4 e0 Ud (Rv Ud))
      |(refine au ?_;symm;exact L4 e0 Ud (Rx Ud))
      |(refine au ?_;symm;exact T8 (ac7 (((Ph j2 j1 Ud).k _).1 hkk.1) Ud))
      |(refine au ?_;symm;exact T9 u0 Ud (acU v0 Uc Ud Ud))
      |(refine au ?_;symm;exact adh i2 Uc j2.ok Uc e2 Uc (ac8 (Ph j2 j1 Ud) vs1 hkk) u2 Uc)
      |done)
  |omega
  |exact ga
  |(show ay _ _=true;kernel_rfl)
  |exact⟨hew,hel⟩
  |exact⟨hfw,hfl⟩
  |exact bR
  |exact bL i2 (Mj Uc)
  |exact bL i2 (Mk Ud)
  |(rw[y8 q0];exact HA q2)
  |exact TU
  |exact adi q2 q1 Uc
  |exact aaa j2 (Mj Uc)
  |exact aaa j2 (Mk Ud)
  |exact aac p2 p0 Uc
  |exact aad p2 j0 Uc p1 Uc
  |exact bL e2 (abR Ud Ud)
  |exact aaY vs1 Ud
  |exact fun k hk=>by cases hk
  |(have q:=hkk.2;simp only[List.length_cons];omega)
  |exact bL v2 (Td Ud)
  |exact bL v2 (Te Ud)
  |exact bL u2 (acV v2 Uc u0)
  |done
abbrev Qa1:dq:=dP (fun F f=>match f with|40=>eg F|41=>eh F|42=>fQ F|43=>j6 F|44=>iM F|45=>kO F|46=>gy F|47=>kS F|48=>iy F|49=>fJ F|19=>ah F|50=>lV F|51=>kQ F|_=>fun _=>none) (by
 intro f;dsimp only;split;exact jd;exact jf;exact mK;exact uQ;exact oZ;exact wG;exact nh;exact wM;exact rJ;exact kM;exact aw;exact x6;exact wK;exact dy)
def dS:EC:=fun F=>fun
 |[.agg hl_]=>hL hl_ fun a0 a1 a2 a3 a4 a5 a6 a7 a8 a9 aA aB aC aD aE aF aG aH aI aJ aK aL aM aN=>(fun _=>QM a0 a1 a2 a4 a5 a6 a7 a8 a9 aA aB aD aL,[.k (F.hpI a0 a1 a2 a3 a4 a5 a6 a7 a8 a9 aA aB aC aD aE aF aG aH aI aJ aK aL aM aN)])
 |_=>none
def eC:ec 12 dS:=by
 intro _ _ _ h hp;dsimp only[dS,F0,hL]at h;split at h;rotate_left;cases h;split at h<;>cases h
 rename_i a0 a1 a2 a3 a4 a5 a6 a7 a8 a9 aA aB aC aD aE aF aG aH aI aJ aK aL aM aN;have N:=hp.n;have hcc:=N.c;have hcw:=N.cw;have hel:=hp.el;have hfl:=hp.fl;have hsl:=N.sl;have hcl:=N.cl;have hlc:=bj (es:=a9);refine cb Qa1 Tryz.func12 ?_
 intro O r F hO hr hF;cbv
 repeat' first|apply Zc|(apply cN<;>intro hb<;>cbv)|(refine⟨[1,57,58,59],[1],Int,fun i=>[.reg 59 (.j i)],fun i=>0<=i/\i<=((a9.length:Nat):Int)/\upto (M3 a9) i,fun i=>(a9.length)-i.toNat,⟨0,?_,?_⟩,?_⟩;rotate_left;(focus (cbv;done));intro i hi;replace hi:0<=i/\i<=((a9.length:Nat):Int)/\upto (M3 a9) i:=hi;obtain⟨i0,i1,i2⟩:=hi;cbv)|(refine ai (O.ar .add Za i 1) ?_ ?_ ?_;focus (cbv;done))
 all_goals(subst hO hr hF;(try simp only[nc]at*);(try simp only[am,SS,sa,az]at*);(try rw[di Uc Uc]))
 all_goals first
  | (show(_:List DV)=_
     first
      |(refine au ?_;symm;exact hp_k Ud)
      |(refine au ?_;symm;exact acf Ud)
      |(refine au ?_;symm;exact ab8 Ud)
      |(refine au ?_;symm;exact acd Ud)
      |(refine au ?_;symm;exact ab9 Ud)
      |(refine au ?_;symm;exact R9 Ud)
      |(refine au ?_;symm;exact ace Ud)
      |(refine au ?_;symm;exact R8 i0 Ud Ud)
      |(refine au ?_;symm;exact acb Ud)
      |(refine au ?_;symm;exact ab7 Ud)
      |(refine au ?_;symm;exact acg Ud)
      |(refine au ?_;symm;exact ach Ud)
      |(refine au ?_;symm;exact aci Ud)
      |(refine au ?_;symm;exact acj Ud)
      |(refine au ?_;rw[NP Ud Ud Ud Ud Ud (VG Uc) Ud (cv i2 Uc) Ud Ud Ud Ud Ud Ud];subst_vars;first|exact SE Ud|exact SF Ud|exact SG Ud Ud|exact rfl|((try rw[cmp_eq]);unfold vy SD;simp[*];done))
      |done)
  |omega
  |exact ga
  |exact⟨hp.c,hp.u,hp.e,hp.r⟩
  |exact⟨Uc,Uc,hp.f,Uc⟩
  |exact⟨N.sw,N.lw,N.sl,N.ll⟩
  |exact⟨N,Ud,hp.e,Uc,hp.f,Uc⟩
  |exact N.m
  |exact⟨N.qw,N.ql⟩
  |exact hcc.n i i0 Ud
  |exact⟨N,Ud⟩
  |exact⟨hp.j,by have:=hp.jl;omega⟩
  |exact⟨N.sw,Uc⟩
  |exact bR
  |exact bL i2 Ud
  |done
end Go.V