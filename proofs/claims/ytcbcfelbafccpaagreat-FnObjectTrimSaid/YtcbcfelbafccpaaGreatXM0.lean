/- Contracts. -/
import Derived.Test.YtcbcfelbafccpaaGreatXFnw
set_option linter.all false
open Go
open And renaming intro->Zc
open IntKind renaming i64->Za
open True renaming intro->Zd
namespace Go.V
open Go Go.Proofs
set_option maxRecDepth 1000000
set_option maxHeartbeats 8000000
def ah:EC:=fun F=>fun
 |[.one (.v (.int Za x)),.one (.v (.int Za a)),.one (.v (.int Za b))]=>some (fun _=>True,[.k (F.inR x a b)])
 |_=>none
def aw:ec 19 ah:=by
 intro _ _ _ h hp;dsimp only[ah,F0]at h;split at h<;>cases h
 rename_i x a b;refine cb nB Tryz.func19 ?_
 intro O r F hO hr hF;cbv
 repeat' first|apply Zc|(apply cN<;>intro hb<;>cbv)
 all_goals(subst hO hr hF;(try simp only[nc]at*);(try simp only[am,SS,sa,az]at*))
 all_goals refine au ?_
 ·exact k8 (by rw[bB];simp only[SS];omega)
 ·exact(sW.2 Uc).symm
def be:ec 52 ah:=by
 intro _ _ _ h hp;dsimp only[ah,F0]at h;split at h<;>cases h
 rename_i x a b;refine cb nB Tryz.func52 ?_
 intro O r F hO hr hF;cbv
 repeat' first|apply Zc|(apply cN<;>intro hb<;>cbv)
 all_goals(subst hO hr hF;(try simp only[nc]at*);(try simp only[am,SS,sa,az]at*))
 all_goals refine au ?_
 ·exact k8 (by rw[bB];simp only[SS];omega)
 ·exact(sW.2 Uc).symm
abbrev F4:dq:=dP (fun F f=>match f with|19=>ah F|52=>ah F|_=>fun _=>none) (by
 intro f;dsimp only;split;exact aw;exact be;exact dy)
def dd:EC:=fun F=>fun
 |[.one (.v (.int Za k))]=>some (fun _=>True,[.k (F.inR k 0 3)])
 |_=>none
def dW:ec 91 dd:=by
 intro _ _ _ h hp;dsimp only[dd,F0]at h;split at h<;>cases h
 rename_i k;refine cb F4 Tryz.func91 ?_
 intro O r F hO hr hF;cbv
 repeat' first|apply Zc|(apply cN<;>intro hb<;>cbv)
 all_goals(subst hO hr hF;(try simp only[nc]at*);(try simp only[am,SS,sa,az]at*))
 all_goals first|trivial|trace_state
abbrev F5:dq:=dP (fun F f=>match f with|91=>dd F|52=>ah F|_=>fun _=>none) (by
 intro f;dsimp only;split;exact dW;exact be;exact dy)
def cH:EC:=fun F=>fun
 |[.one (.v (.int Za k))]=>some (fun _=>True,[.j (F.clsSz k)])
 |_=>none
def cV:ec 62 cH:=by
 intro _ _ _ h hp;dsimp only[cH,F0]at h;split at h<;>cases h
 rename_i k;refine cb F5 Tryz.func62 ?_
 intro O r F hO hr hF;cbv
 repeat' first|apply Zc|(apply cN<;>intro hb<;>cbv)
 all_goals(subst hO hr hF;(try simp only[nc]at*);(try simp only[am,SS,sa,az]at*))
 all_goals first|exact cg (Rh Ud).symm|(refine cg ?_;rw[Ri Ud])|(rw[bB]at*;omega)|trace_state
abbrev F6:dq:=dP (fun F f=>match f with|19=>ah F|52=>ah F|62=>cH F|_=>fun _=>none) (by
 intro f;dsimp only;split;exact aw;exact be;exact cV;exact dy)
def eU:EC:=fun F=>fun
 |[.one (.v (.int Za s))]=>some (fun _=>True,[.j (F.clsOf s)])
 |_=>none
def jP:ec 24 eU:=by
 intro _ _ _ h hp;dsimp only[eU,F0]at h;split at h<;>cases h
 rename_i s;refine cb F6 Tryz.func24 ?_
 intro O r F hO hr hF;cbv
 repeat' first|apply Zc|(apply cN<;>intro hb<;>cbv)|(refine⟨[0,3],[],Int,fun k=>[.reg 3 (.j k)],fun k=>0<=k/\k<=3/\(k=0\/clsSz (k-1)<s),fun k=>(3-k).toNat,⟨0,?_,?_⟩,?_⟩;rotate_left;(focus (cbv;done));intro k hk;replace hk:0<=k/\k<=3/\(k=0\/clsSz (k-1)<s):=hk;obtain⟨k0,k1,k2⟩:=hk;cbv)|(refine ai (O.ar .add Za k 1) ?_ ?_ ?_;focus (cbv;done))
 all_goals(subst hO hr hF;(try simp only[nc]at*);(try simp only[am,SS,sa,az]at*);(try simp only[bB,sW]at*);(try rw[di Uc Uc]))
 all_goals first|trivial|omega|exact Ll Uc Ud Uc|(have:=Ll (k:=k) (s:=s) Uc Ud Uc;omega)|exact cg (Rc Uc).symm|exact cg (Nh Uc Ud Uc Ud).symm|exact .inl trivial|(rw[show k+1-1=k by omega];exact .inr Ud)|trace_state
def iq:EC:=fun F=>fun
 |[.agg hl_]=>hL hl_ fun a0 a1 a2 a3 a4 a5 a6 a7 a8 a9 aA aB aC aD aE aF aG aH aI aJ aK aL aM aN=>(fun _=>Rw [tI,tI,tI,tI] a8/\a8.length<=1099511627776,[.j (F.lsI a8)])
 |_=>none
def rF:ec 23 iq:=by
 intro _ _ _ h hp;dsimp only[iq,F0,hL]at h;split at h;rotate_left;cases h;split at h<;>cases h
 rename_i a0 a1 a2 a3 a4 a5 a6 a7 a8 a9 aA aB aC aD aE aF aG aH aI aJ aK aL aM aN;obtain⟨hw,hn⟩:=hp;refine cb nB Tryz.func23 ?_
 intro O r F hO hr hF;cbv
 repeat' first|apply Zc|(apply cN<;>intro hb<;>cbv)|(refine⟨[3,7,8,9],[],Int×Int,fun s_=>match s_ with|(i,n)=>[.reg 9 (.j i),.reg 3 (.j n)],fun s_=>match s_ with|(i,n)=>0<=i/\i<=(a8.length:Int)/\n=A2 (szF a8) i.toNat,fun s_=>match s_ with|(i,n)=>a8.length-i.toNat,⟨(0,0),?_,?_⟩,?_⟩;rotate_left;(focus (cbv;done));intro s_ hi;obtain⟨i,n⟩:=s_;replace hi:0<=i/\i<=(a8.length:Int)/\n=A2 (szF a8) i.toNat:=hi;obtain⟨i0,i1,i2⟩:=hi;cbv)|(refine ai (O.ar .add Za i 1,O.ar .add Za n (O.gi a8 i 2)) ?_ ?_ ?_;focus (cbv;done))
 all_goals(subst hO hr hF;(try simp only[nc]at*);(try simp only[am,SS,sa,az]at*);(try rw[di Uc Uc]))
 all_goals first
  | (show(_:List DV)=_
     first
      |exact cg (by rw[i2,show i.toNat=a8.length by omega];rfl)
      |done)
  | (show(_:Int)=_
     first
      |(rw[KU i0, <-i2];rfl)
      |exact(rfl:(0:Int)=A2 (szF a8) 0)
      |done)
  |omega
  |exact ga
  |trivial
  |exact⟨trivial,trivial⟩
  |trace_state
abbrev W1:dq:=dP (fun F f=>match f with|24=>eU F|62=>cH F|_=>fun _=>none) (by
 intro f;dsimp only;split;exact jP;exact cV;exact dy)
def jW:EC:=fun F=>fun
 |[.agg [.v (.int Za d0),.v (.int Za d1),.v (.int Za d2),.v (.int Za d3)],.ptr [.v (.int Za ad)]]=>some (fun _=>True,[.k (F.eqB d1 ad)])
 |_=>none
def uI:ec 76 jW:=by
 intro _ _ _ h hp;dsimp only[jW,F0]at h;split at h<;>cases h
 rename_i d0 d1 d2 d3 ad;refine cb nB Tryz.func76 ?_
 intro O r F hO hr hF;cbv
 repeat' first|apply Zc|(apply cN<;>intro hb<;>cbv)
 all_goals(subst hO hr hF;(try simp only[nc]at*);(try simp only[am,SS,sa,az]at*))
 all_goals first
  | (show(_:List DV)=_
     first
      |exact au (xk Ud).symm
      |exact au (An Ud).symm
      |exact au (k8 (by unfold eqB;simp only[SS,VI]))
      |done)
  |trivial
  |trace_state
def jt:EC:=fun F=>fun
 |[.agg [.v (.int Za d0),.v (.int Za d1),.v (.int Za d2)],.ptr [.v (.int Za pg)]]=>some (fun _=>True,[.k (F.eqB d0 pg)])
 |_=>none
def tM:ec 100 jt:=by
 intro _ _ _ h hp;dsimp only[jt,F0]at h;split at h<;>cases h
 rename_i d0 d1 d2 pg;refine cb nB Tryz.func100 ?_
 intro O r F hO hr hF;cbv
 repeat' first|apply Zc|(apply cN<;>intro hb<;>cbv)
 all_goals(subst hO hr hF;(try simp only[nc]at*);(try simp only[am,SS,sa,az]at*))
 all_goals first
  | (show(_:List DV)=_
     first
      |exact au (k8 (by unfold eqB;simp only[SS,VI]))
      |done)
  |trace_state
abbrev W3:dq:=dP (fun F f=>match f with|76=>jW F|100=>jt F|_=>fun _=>none) (by
 intro f;dsimp only;split;exact uI;exact tM;exact dy)
def bi:EC:=fun F=>fun
 |[.one (.s 4 os),.fn 76 [[.v (.int Za id)]]]=>some (fun _=>Rw [tI,tI,tI,tI] os/\os.length<=1099511627776,[.j (F.obI os id)])
 |_=>none
def cC:ec 36 bi:=by
 intro _ _ _ h hp;dsimp only[bi,F0]at h;split at h<;>cases h
 rename_i os id;obtain⟨hw,hn⟩:=hp;refine cb W3 Tryz.func36 ?_
 intro O r F hO hr hF;cbv
 repeat' first|apply Zc|(apply cN<;>intro hb<;>cbv)|(refine⟨[0,1,7,8],[0],Int,fun i=>[.reg 8 (.j i)],fun i=>0<=i/\i<=((os.length:Nat):Int)/\upto (cI (Cl os id)) i,fun i=>(os.length)-i.toNat,⟨0,?_,?_⟩,?_⟩;rotate_left;(focus (cbv;done));intro i hi;replace hi:0<=i/\i<=((os.length:Nat):Int)/\upto (cI (Cl os id)) i:=hi;obtain⟨i0,i1,i2⟩:=hi;cbv)|(refine ai (O.ar .add Za i 1) ?_ ?_ ?_;focus (cbv;done))
 all_goals(subst hO hr hF;(try simp only[nc]at*);(try simp only[am,SS,sa,az]at*);(try rw[di Uc Uc]))
 all_goals first
  | (show(_:List DV)=_
     first
      |exact cg (dB i2 i0 Ud (show Cl os id i=true from by assumption)).symm
      |exact cg (dB i2 i0 Ud (show Cl os id i=true from xk Ud)).symm
      |exact cg (dL i2 Ud).symm
      |done)
  |omega
  |exact ga
  |(show(lk _ _).isSome=true;kernel_rfl)
  |exact bR
  |exact bL i2 (fE (show Cl os id i=false from by assumption))
  |exact bL i2 (fE (show Cl os id i=false from An Ud))
  |exact⟨trivial,trivial⟩
  |trivial
  |trace_state
def bc:EC:=fun F=>fun
 |[.one (.s 3 os),.fn 100 [[.v (.int Za id)]]]=>some (fun _=>Rw [tI,tI,tI] os/\os.length<=1099511627776,[.j (F.spI os id)])
 |_=>none
def cr:ec 99 bc:=by
 intro _ _ _ h hp;dsimp only[bc,F0]at h;split at h<;>cases h
 rename_i os id;obtain⟨hw,hn⟩:=hp;refine cb W3 Tryz.func99 ?_
 intro O r F hO hr hF;cbv
 repeat' first|apply Zc|(apply cN<;>intro hb<;>cbv)|(refine⟨[0,1,7,8],[0],Int,fun i=>[.reg 8 (.j i)],fun i=>0<=i/\i<=((os.length:Nat):Int)/\upto (cI (isSp os id)) i,fun i=>(os.length)-i.toNat,⟨0,?_,?_⟩,?_⟩;rotate_left;(focus (cbv;done));intro i hi;replace hi:0<=i/\i<=((os.length:Nat):Int)/\upto (cI (isSp os id)) i:=hi;obtain⟨i0,i1,i2⟩:=hi;cbv)|(refine ai (O.ar .add Za i 1) ?_ ?_ ?_;focus (cbv;done))
 all_goals(subst hO hr hF;(try simp only[nc]at*);(try simp only[am,SS,sa,az]at*);(try rw[di Uc Uc]))
 all_goals first
  | (show(_:List DV)=_
     first
      |exact cg (dB i2 i0 Ud (show isSp os id i=true from by assumption)).symm
      |exact cg (dL i2 Ud).symm
      |done)
  |omega
  |exact ga
  |(show(lk _ _).isSome=true;kernel_rfl)
  |exact bR
  |exact bL i2 (fE (show isSp os id i=false from by assumption))
  |trace_state
abbrev W4:dq:=dP (fun F f=>match f with|36=>bi F|99=>bc F|_=>fun _=>none) (by
 intro f;dsimp only;split;exact cC;exact cr;exact dy)
def lW:EC:=fun F=>fun
 |[.agg hl_,.one (.v (.int Za ad))]=>hL hl_ fun a0 a1 a2 a3 a4 a5 a6 a7 a8 a9 aA aB aC aD aE aF aG aH aI aJ aK aL aM aN=>(fun _=>Rw [tI,tI,tI,tI] a8/\a8.length<=1099511627776,[.j (F.obI a8 ad)])
 |_=>none
def x7:ec 33 lW:=by
 intro _ _ _ h hp;dsimp only[lW,F0,hL]at h;split at h;rotate_left;cases h;split at h<;>cases h
 rename_i ad _ a0 a1 a2 a3 a4 a5 a6 a7 a8 a9 aA aB aC aD aE aF aG aH aI aJ aK aL aM aN;refine cb W4 Tryz.func33 ?_
 intro O r F hO hr hF;cbv
 repeat' first|apply Zc|(apply cN<;>intro hb<;>cbv)
 all_goals(subst hO hr hF;(try simp only[nc]at*);(try simp only[am,SS,sa,az]at*))
 all_goals first|exact hp|exact rfl|trivial|trace_state
def kQ:EC:=fun F=>fun
 |[.agg hl_,.one (.v (.int Za pg))]=>hL hl_ fun a0 a1 a2 a3 a4 a5 a6 a7 a8 a9 aA aB aC aD aE aF aG aH aI aJ aK aL aM aN=>(fun _=>Rw [tI,tI,tI] a6/\a6.length<=1099511627776,[.j (F.spI a6 pg)])
 |_=>none
def wK:ec 51 kQ:=by
 intro _ _ _ h hp;dsimp only[kQ,F0,hL]at h;split at h;rotate_left;cases h;split at h<;>cases h
 rename_i pg _ a0 a1 a2 a3 a4 a5 a6 a7 a8 a9 aA aB aC aD aE aF aG aH aI aJ aK aL aM aN;refine cb W4 Tryz.func51 ?_
 intro O r F hO hr hF;cbv
 repeat' first|apply Zc|(apply cN<;>intro hb<;>cbv)
 all_goals(subst hO hr hF;(try simp only[nc]at*);(try simp only[am,SS,sa,az]at*))
 all_goals first|exact hp|exact rfl|trace_state
def eW:EC:=fun F=>fun
 |[.agg [.s 2 es],.one (.v (.int Za f))]=>some (fun _=>Rw [tI,tI] es/\es.length<=1099511627776,[.one (.s 1 (F.pagesOn es f))])
 |_=>none
def jR:ec 124 eW:=by
 intro _ _ _ h hp;dsimp only[eW,F0]at h;split at h<;>cases h
 rename_i es f;obtain⟨hw,hlen⟩:=hp;refine cb nB Tryz.func124 ?_
 intro O r F hO hr hF;cbv
 repeat' first|apply Zc|(apply cN<;>intro hb<;>cbv)|(refine⟨[1,5,10,11,12],[5],Int×af,fun s_=>match s_ with|(i,out)=>[.reg 12 (.j i),.reg 5 (.one (.vw 5 0 0 0 (O.ln out))),.leaf 5 0 ⟨0,0,none,.own (.s 1 out)⟩],fun s_=>match s_ with|(i,out)=>0<=i/\i<=(es.length:Int)/\out=vO es f i.toNat,fun s_=>match s_ with|(i,out)=>es.length-i.toNat,⟨(0,[]),?_,?_⟩,?_⟩;rotate_left;(focus (cbv;done));intro s_ hi;obtain⟨i,out⟩:=s_;replace hi:0<=i/\i<=(es.length:Int)/\out=vO es f i.toNat:=hi;obtain⟨i0,i1,i2⟩:=hi;cbv)|(refine ai (O.ar .add Za i 1,O.cat out (O.sub [[.i i]] 0 (O.ln [[.i i]]))) ?_ ?_ ?_;focus (cbv;done))|(refine ai (O.ar .add Za i 1,out) ?_ ?_ ?_;focus (cbv;done))
 all_goals(subst hO hr hF;(try simp only[nc]at*);(try simp only[am,SS,sa,az]at*);(try rw[di Uc Uc]);(try(have hpl:=yK (es:=es) (f:=f) (n:=i.toNat);rw[<-i2]at hpl)))
 all_goals first|omega|exact ga|(exact⟨trivial,trivial⟩)|rfl|(simp only[List.length_cons,List.length_nil];omega)|(rw[Kt i0 Ud Ud, <-i2])|(rw[HG i0 (.inl Ud), <-i2])|(rw[HG i0 (.inr Ud), <-i2])|exact CR (by rw[i2,show i.toNat=es.length from by omega];rfl)|trace_state
abbrev B1:dq:=dP (fun F f=>match f with|19=>ah F|52=>ah F|_=>fun _=>none) (by
 intro f;dsimp only;split;exact aw;exact be;exact dy)
def cO:EC:=fun F=>fun
 |[.agg [.s 2 es],.one (.v (.int Za p))]=>some (fun _=>Rw [tI,tI] es,[.agg [.i (F.peM es p),.i (F.peF es p)]])
 |_=>none
def dx:ec 77 cO:=by
 intro _ _ _ h hp;dsimp only[cO,F0]at h;split at h<;>cases h
 rename_i es p;have hm:=hp.1;unfold maxLen at hm;have hsb:bK .sub Za (es.length:Int) 1=es.length-1:=fC Uc;refine cb B1 Tryz.func77 ?_
 intro O r F hO hr hF;cbv
 repeat' first|apply Zc|(apply cN<;>intro hb<;>cbv)
 all_goals(subst hO hr hF;(try simp only[nc]at*);(try simp only[am,SS,sa,az]at*);(try simp only[hsb]at*);(try simp only[bB,sW]at*))
 all_goals first|exact Aa (AQ Uc).1.symm (AQ Uc).2.symm|exact Aa (yJ Uc).1.symm (yJ Uc).2.symm|exact ga|trace_state
abbrev B2:dq:=dP (fun F f=>match f with|77=>cO F|124=>eW F|_=>fun _=>none) (by
 intro f;dsimp only;split;exact dx;exact jR;exact dy)
def eO:EC:=fun F=>fun
 |[.agg hl_,.one (.v (.int Za pg))]=>hL hl_ fun a0 a1 a2 a3 a4 a5 a6 a7 a8 a9 aA aB aC aD aE aF aG aH aI aJ aK aL aM aN=>(fun _=>Rw [tI,tI] a2/\a2.length<=1099511627776,[.one (.s 1 (F.fpg a2 pg))])
 |_=>none
def kD:ec 85 eO:=by
 intro _ _ _ h hp;dsimp only[eO,F0,hL]at h;split at h;rotate_left;cases h;split at h<;>cases h
 rename_i pg _ a0 a1 a2 a3 a4 a5 a6 a7 a8 a9 aA aB aC aD aE aF aG aH aI aJ aK aL aM aN;obtain⟨hw,hn⟩:=hp;refine cb B2 Tryz.func85 ?_
 intro O r F hO hr hF;cbv
 repeat' first|apply Zc|(apply cN<;>intro hb<;>cbv)
 all_goals(subst hO hr hF;(try simp only[nc]at*);(try simp only[am,SS,sa,az]at*))
 all_goals first
  | (show(_:List DV)=_
     first
      |exact CR (Ny Ud).symm
      |exact CR (JJ Ud).symm
      |done)
  |exact⟨hw,hn⟩
  |exact hw
  |exact⟨Zd,Zd⟩
  |trace_state
def ea:EC:=fun F=>fun
 |[.one (.s 1 l),.one (.v (.int Za x))]=>some (fun _=>Rw [tI] l/\l.length<=1099511627776,[.j (F.idxI l x)])
 |_=>none
def lT:ec 151 ea:=by
 intro _ _ _ h hp;dsimp only[ea,F0]at h;split at h<;>cases h
 rename_i l x;obtain⟨hw,hn⟩:=hp;refine cb nB Tryz.func151 ?_
 intro O r F hO hr hF;cbv
 repeat' first|apply Zc|(apply cN<;>intro hb<;>cbv)|(refine⟨[0,1,7,8],[0],Int,fun i=>[.reg 8 (.j i)],fun i=>0<=i/\i<=((l.length:Nat):Int)/\upto (cI (SA l x)) i,fun i=>(l.length)-i.toNat,⟨0,?_,?_⟩,?_⟩;rotate_left;(focus (cbv;done));intro i hi;replace hi:0<=i/\i<=((l.length:Nat):Int)/\upto (cI (SA l x)) i:=hi;obtain⟨i0,i1,i2⟩:=hi;cbv)|(refine ai (O.ar .add Za i 1) ?_ ?_ ?_;focus (cbv;done))
 all_goals(subst hO hr hF;(try simp only[nc]at*);(try simp only[am,SS,sa,az]at*);(try rw[di Uc Uc]))
 all_goals first
  | (show(_:List DV)=_
     first
      |exact cg (dB i2 i0 Ud (show SA l x i=true from xk Ud)).symm
      |exact cg (dL i2 Ud).symm
      |done)
  |omega
  |exact ga
  |exact bR
  |exact bL i2 (fE (show SA l x i=false from An Ud))
  |trace_state
abbrev B3:dq:=dP (fun F f=>match f with|151=>ea F|_=>fun _=>none) (by
 intro f;dsimp only;split;exact lT;exact dy)
def cS:EC:=fun F=>fun
 |[.one (.s 1 l),.one (.v (.int Za x))]=>some (fun _=>Rw [tI] l/\l.length<=1099511627776,[.k (F.hasB l x)])
 |_=>none
def fA:ec 136 cS:=by
 intro _ _ _ h hp;dsimp only[cS,F0]at h;split at h<;>cases h
 rename_i l x;refine cb B3 Tryz.func136 ?_
 intro O r F hO hr hF;cbv
 repeat' first|apply Zc|(apply cN<;>intro hb<;>cbv)
 all_goals(subst hO hr hF;(try simp only[nc]at*);(try simp only[am,SS,sa,az]at*))
 all_goals first
  | (show(_:List DV)=_
     first
      |exact au (show cT .geq (idxI l x) 0=decide (0<=idxI l x)from rfl)
      |done)
  |exact hp
  |trace_state
abbrev B4:dq:=dP (fun F f=>match f with|19=>ah F|85=>eO F|136=>cS F|52=>ah F|_=>fun _=>none) (by
 intro f;dsimp only;split;exact aw;exact kD;exact fA;exact be;exact dy)
def fT:EC:=fun F=>fun
 |[.agg hl_,.one (.v (.int Za ix))]=>hL hl_ fun a0 a1 a2 a3 a4 a5 a6 a7 a8 a9 aA aB aC aD aE aF aG aH aI aJ aK aL aM aN=>(fun _=>Rw [tI,tI] a2/\Rw [tI,tI,tI] a6/\a2.length<=1099511627776/\a6.length<=1099511627776,[.j (F.ubB a2 a6 ix)])
 |_=>none
def mM:ec 107 fT:=by
 intro _ _ _ h hp;dsimp only[fT,F0,hL]at h;split at h;rotate_left;cases h;split at h<;>cases h
 rename_i ix _ a0 a1 a2 a3 a4 a5 a6 a7 a8 a9 aA aB aC aD aE aF aG aH aI aJ aK aL aM aN;obtain⟨he,hw,hm,hn⟩:=hp;refine cb B4 Tryz.func107 ?_
 intro O r F hO hr hF;cbv
 repeat' first|apply Zc|(apply cN<;>intro hb<;>cbv)|(refine⟨[5,6,31,32,33],[6],Int×Int,fun s_=>match s_ with|(i,b)=>[.reg 33 (.j i),.reg 5 (.j b)],fun s_=>match s_ with|(i,b)=>0<=i/\i<=(a6.length:Int)/\b=Ft a6 (fpg a2 (ag a6 ix 0)) (ag a6 ix 2) i.toNat,fun s_=>match s_ with|(i,b)=>a6.length-i.toNat,⟨(0,O.gi a6 ix 2),?_,?_⟩,?_⟩;rotate_left;(focus (cbv;done));intro s_ hi;obtain⟨i,b⟩:=s_;replace hi:0<=i/\i<=(a6.length:Int)/\b=Ft a6 (fpg a2 (ag a6 ix 0)) (ag a6 ix 2) i.toNat:=hi;obtain⟨i0,i1,i2⟩:=hi;cbv)|(refine ai (O.ar .add Za i 1,b) ?_ ?_ ?_;focus (cbv;done))|(refine ai (O.ar .add Za i 1,O.ar .or Za b (O.gi a6 i 2)) ?_ ?_ ?_;focus (cbv;done))
 all_goals(subst hO hr hF;(try simp only[nc]at*);(try simp only[am,SS,sa,az]at*))
 all_goals(have hsb:bK .sub Za (a6.length:Int) 1=a6.length-1:=fC Uc;(try simp only[hsb]at*);(try(have hz:=bB.1 (‹inR ix 0 ((a6.length:Int)-1)=true›))))
 all_goals(have hfp:=Nz (es:=a2) (p:=ag a6 ix 0) hm;(try rw[di Uc Uc]))
 all_goals first
  | (show(_:List DV)=_
     first
      |exact cg (aaR Ud).symm
      |exact cg ((i2.trans (by rw[show i.toNat=a6.length by omega])).trans (P0 Ud).symm)
      |done)
  | (show(_:Int)=_
     first
      |(rw[K0 i0 Ud, <-i2])
      |(rw[PZ i0 Ud, <-i2])
      |exact(rfl:ag a6 ix 2=Ft a6 (fpg a2 (ag a6 ix 0)) (ag a6 ix 2) 0)
      |done)
  |omega
  |(show ay _ _=true;kernel_rfl)
  |exact ga
  |exact⟨he,hm⟩
  |exact⟨hfp.1,hfp.2⟩
  |exact⟨Zd,Zd⟩
  |exact Zd
  |trace_state
abbrev C1:dq:=dP (fun F f=>match f with|19=>ah F|52=>ah F|_=>fun _=>none) (by
 intro f;dsimp only;split;exact aw;exact be;exact dy)
def iN:EC:=fun F=>fun
 |[.one (.v (.int Za b)),.one (.v (.int Za i))]=>some (fun _=>True,[.k (F.slB b i)])
 |_=>none
def o8:ec 138 iN:=by
 intro _ _ _ h hp;dsimp only[iN,F0]at h;split at h<;>cases h
 rename_i b i;refine cb C1 Tryz.func138 ?_
 intro O r F hO hr hF;cbv
 repeat' first|apply Zc|(apply cN<;>intro hb<;>cbv)
 all_goals(subst hO hr hF;(try simp only[nc]at*);(try simp only[am,SS,sa,az]at*))
 all_goals first
  | (show(_:List DV)=_
     first
      |exact au (by unfold slB;rw[VG Ud];rfl)
      |exact au (by unfold slB;rw[VH Uc];rfl)
      |done)
  |trace_state
abbrev C2:dq:=dP (fun F f=>match f with|138=>iN F|_=>fun _=>none) (by
 intro f;dsimp only;split;exact o8;exact dy)
def dX:EC:=fun F=>fun
 |[.one (.v (.int Za b)),.one (.v (.int Za i))]=>some (fun _=>True,[.k (F.hsB b i)])
 |_=>none
def gw:ec 130 dX:=by
 intro _ _ _ h hp;dsimp only[dX,F0]at h;split at h<;>cases h
 rename_i b i;refine cb C2 Tryz.func130 ?_
 intro O r F hO hr hF;cbv
 repeat' first|apply Zc|(apply cN<;>intro hb<;>cbv)
 all_goals(subst hO hr hF;(try simp only[nc]at*);(try simp only[am,SS,sa,az]at*);(try(have hs:=PI.1 (‹slB b i=true›);have hw:=Bq hs.2.1 hs.2.2;simp only[hw]at*)))
 all_goals first
  | (show(_:List DV)=_
     first
      |exact au (Sd Ud).symm
      |(refine au (k8 ?_);unfold hsB;rw[show slB b i=true from by assumption,Bool.true_and,VI];simp only[SS])
      |done)
  |omega
  |trace_state
end Go.V