/- Contracts. -/
import Derived.Test.YtpldpilhgjpkjaaGreatZFnv
set_option linter.all false
open Go
open And renaming intro->Zc
open IntKind renaming i64->Za
open List renaming length_cons->Zi,length_nil->Zk
open True renaming intro->Zd
noncomputable section
namespace Go.V
open Go Go.Proofs
set_option maxRecDepth 1000000
set_option maxHeartbeats 8000000
def ap:EC:=fun F=>fun
 |[.one (.v (.int Za x)),.one (.v (.int Za a)),.one (.v (.int Za b))]=>some (fun _=>True,[.k (F.inR x a b)])
 |_=>none
def aw:ec 33 ap:=by
 intro _ _ _ h hp;dsimp only[ap,F0]at h;split at h<;>cases h
 rename_i x a b;refine cb nB Tryz.func33 ?_
 intro O r F hO hr hF;cbv
 repeat' first|apply Zc|(apply cN<;>intro hb<;>cbv)
 all_goals(subst hO hr hF;(try simp only[nc]at*);(try simp only[aj,SS,sa,az]at*))
 all_goals refine ax ?_
 ·exact o8 (by rw[ay];simp only[SS];omega)
 ·exact(Au.2 Uc).symm
abbrev F4:di:=dH (fun F f=>match f with|33=>ap F|_=>fun _=>none) (by
 intro f;dsimp only;split;exact aw;exact dp)
def dA:EC:=fun F=>fun
 |[.one (.v (.int Za k))]=>some (fun _=>True,[.k (F.inR k 0 3)])
 |_=>none
def eN:ec 157 dA:=by
 intro _ _ _ h hp;dsimp only[dA,F0]at h;split at h<;>cases h
 rename_i k;refine cb F4 Tryz.func157 ?_
 intro O r F hO hr hF;cbv
 repeat' first|apply Zc|(apply cN<;>intro hb<;>cbv)
 all_goals(subst hO hr hF;(try simp only[nc]at*);(try simp only[aj,SS,sa,az]at*))
 all_goals first|trivial|trace_state
abbrev F5:di:=dH (fun F f=>match f with|157=>dA F|_=>fun _=>none) (by
 intro f;dsimp only;split;exact eN;exact dp)
def cC:EC:=fun F=>fun
 |[.one (.v (.int Za k))]=>some (fun _=>True,[.j (F.clsSz k)])
 |_=>none
def dd:ec 56 cC:=by
 intro _ _ _ h hp;dsimp only[cC,F0]at h;split at h<;>cases h
 rename_i k;refine cb F5 Tryz.func56 ?_
 intro O r F hO hr hF;cbv
 repeat' first|apply Zc|(apply cN<;>intro hb<;>cbv)
 all_goals(subst hO hr hF;(try simp only[nc]at*);(try simp only[aj,SS,sa,az]at*))
 all_goals first|exact cd (acl Ud).symm|(refine cd ?_;rw[acm Ud])|(rw[ay]at*;omega)|trace_state
abbrev F6:di:=dH (fun F f=>match f with|33=>ap F|56=>cC F|_=>fun _=>none) (by
 intro f;dsimp only;split;exact aw;exact dd;exact dp)
def eO:EC:=fun F=>fun
 |[.one (.v (.int Za s))]=>some (fun _=>True,[.j (F.clsOf s)])
 |_=>none
def ir:ec 38 eO:=by
 intro _ _ _ h hp;dsimp only[eO,F0]at h;split at h<;>cases h
 rename_i s;refine cb F6 Tryz.func38 ?_
 intro O r F hO hr hF;cbv
 repeat' first|apply Zc|(apply cN<;>intro hb<;>cbv)|(refine⟨[0,3],[],Int,fun k=>[.reg 3 (.j k)],fun k=>0<=k/\k<=3/\(k=0\/clsSz (k-1)<s),fun k=>(3-k).toNat,⟨0,?_,?_⟩,?_⟩;rotate_left;(focus (cbv;done));intro k hk;replace hk:0<=k/\k<=3/\(k=0\/clsSz (k-1)<s):=hk;obtain⟨k0,k1,k2⟩:=hk;cbv)|(refine ah (O.ar .add Za k 1) ?_ ?_ ?_;focus (cbv;done))
 all_goals(subst hO hr hF;(try simp only[nc]at*);(try simp only[aj,SS,sa,az]at*);(try simp only[ay,Au]at*);(try rw[db Uc Uc]))
 all_goals first|trivial|omega|exact PC Uc Ud Uc|(have:=PC (k:=k) (s:=s) Uc Ud Uc;omega)|exact cd (aci Uc).symm|exact cd (Sg Uc Ud Uc Ud).symm|exact .inl trivial|(rw[show k+1-1=k by omega];exact .inr Ud)|trace_state
def ju:EC:=fun F=>fun
 |[.agg hl_]=>hL hl_ fun a0 a1 a2 a3 a4 a5 a6 a7 a8 a9 aA aB aC aD aE aF aG aH aI aJ aK aL aM aN=>(fun _=>Rw [tI,tI,tI,tI] a8/\a8.length<=1099511627776,[.j (F.lsI a8)])
 |_=>none
def tX:ec 37 ju:=by
 intro _ _ _ h hp;dsimp only[ju,F0,hL]at h;split at h;rotate_left;cases h;split at h<;>cases h
 rename_i a0 a1 a2 a3 a4 a5 a6 a7 a8 a9 aA aB aC aD aE aF aG aH aI aJ aK aL aM aN;obtain⟨hw,hn⟩:=hp;refine cb nB Tryz.func37 ?_
 intro O r F hO hr hF;cbv
 repeat' first|apply Zc|(apply cN<;>intro hb<;>cbv)|(refine⟨[3,7,8,9],[],Int×Int,fun s_=>match s_ with|(i,n)=>[.reg 9 (.j i),.reg 3 (.j n)],fun s_=>match s_ with|(i,n)=>0<=i/\i<=(a8.length:Int)/\n=DU (szF a8) i.toNat,fun s_=>match s_ with|(i,n)=>a8.length-i.toNat,⟨(0,0),?_,?_⟩,?_⟩;rotate_left;(focus (cbv;done));intro s_ hi;obtain⟨i,n⟩:=s_;replace hi:0<=i/\i<=(a8.length:Int)/\n=DU (szF a8) i.toNat:=hi;obtain⟨i0,i1,i2⟩:=hi;cbv)|(refine ah (O.ar .add Za i 1,O.ar .add Za n (O.gi a8 i 2)) ?_ ?_ ?_;focus (cbv;done))
 all_goals(subst hO hr hF;(try simp only[nc]at*);(try simp only[aj,SS,sa,az]at*);(try rw[db Uc Uc]))
 all_goals first
  | (show(_:List DV)=_
     first
      |exact cd (by rw[i2,show i.toNat=a8.length by omega];rfl)
      |done)
  | (show(_:Int)=_
     first
      |(rw[O4 i0, <-i2];rfl)
      |exact(rfl:(0:Int)=DU (szF a8) 0)
      |done)
  |omega
  |exact j4
  |trace_state
abbrev W1:di:=dH (fun F f=>match f with|38=>eO F|56=>cC F|_=>fun _=>none) (by
 intro f;dsimp only;split;exact ir;exact dd;exact dp)
def lC:EC:=fun F=>fun
 |[.agg [.v (.int Za d0),.v (.int Za d1),.v (.int Za d2),.v (.int Za d3)],.ptr [.v (.int Za ad)]]=>some (fun _=>True,[.k (F.eqB d1 ad)])
 |_=>none
def xo:ec 152 lC:=by
 intro _ _ _ h hp;dsimp only[lC,F0]at h;split at h<;>cases h
 rename_i d0 d1 d2 d3 ad;refine cb nB Tryz.func152 ?_
 exact zq2
def kB:EC:=fun F=>fun
 |[.agg [.v (.int Za d0),.v (.int Za d1),.v (.int Za d2)],.ptr [.v (.int Za pg)]]=>some (fun _=>True,[.k (F.eqB d0 pg)])
 |_=>none
def vY:ec 180 kB:=by
 intro _ _ _ h hp;dsimp only[kB,F0]at h;split at h<;>cases h
 rename_i d0 d1 d2 pg;refine cb nB Tryz.func180 ?_
 exact zq2
abbrev W3:di:=dH (fun F f=>match f with|152=>lC F|180=>kB F|_=>fun _=>none) (by
 intro f;dsimp only;split;exact xo;exact vY;exact dp)
def bE:EC:=fun F=>fun
 |[.one (.s 4 os),.fn 152 [[.v (.int Za id)]]]=>some (fun _=>Rw [tI,tI,tI,tI] os/\os.length<=1099511627776,[.j (F.obI os id)])
 |_=>none
def cO:ec 151 bE:=by
 intro _ _ _ h hp;dsimp only[bE,F0]at h;split at h<;>cases h
 rename_i os id;obtain⟨hw,hn⟩:=hp;refine cb W3 Tryz.func151 ?_
 intro O r F hO hr hF;cbv
 repeat' first|apply Zc|(apply cN<;>intro hb<;>cbv)|(refine⟨[0,1,7,8],[0],Int,fun i=>[.reg 8 (.j i)],fun i=>0<=i/\i<=((os.length:Nat):Int)/\upto (cY (Ig os id)) i,fun i=>(os.length)-i.toNat,⟨0,?_,?_⟩,?_⟩;rotate_left;(focus (cbv;done));intro i hi;replace hi:0<=i/\i<=((os.length:Nat):Int)/\upto (cY (Ig os id)) i:=hi;obtain⟨i0,i1,i2⟩:=hi;cbv)|(refine ah (O.ar .add Za i 1) ?_ ?_ ?_;focus (cbv;done))
 all_goals(subst hO hr hF;(try simp only[nc]at*);(try simp only[aj,SS,sa,az]at*);(try rw[db Uc Uc]))
 all_goals first
  | (show(_:List DV)=_
     first
      |exact cd (dU i2 i0 Ud (show Ig os id i=true from by assumption)).symm
      |exact cd (eQ i2 Ud).symm
      |done)
  |omega
  |exact j4
  |(show(lk _ _).isSome=true;kernel_rfl)
  |exact cr
  |exact bU i2 (gC (show Ig os id i=false from by assumption))
  |trace_state
def bC:EC:=fun F=>fun
 |[.one (.s 3 os),.fn 180 [[.v (.int Za id)]]]=>some (fun _=>Rw [tI,tI,tI] os/\os.length<=1099511627776,[.j (F.spI os id)])
 |_=>none
def cH:ec 179 bC:=by
 intro _ _ _ h hp;dsimp only[bC,F0]at h;split at h<;>cases h
 rename_i os id;obtain⟨hw,hn⟩:=hp;refine cb W3 Tryz.func179 ?_
 intro O r F hO hr hF;cbv
 repeat' first|apply Zc|(apply cN<;>intro hb<;>cbv)|(refine⟨[0,1,7,8],[0],Int,fun i=>[.reg 8 (.j i)],fun i=>0<=i/\i<=((os.length:Nat):Int)/\upto (cY (isSp os id)) i,fun i=>(os.length)-i.toNat,⟨0,?_,?_⟩,?_⟩;rotate_left;(focus (cbv;done));intro i hi;replace hi:0<=i/\i<=((os.length:Nat):Int)/\upto (cY (isSp os id)) i:=hi;obtain⟨i0,i1,i2⟩:=hi;cbv)|(refine ah (O.ar .add Za i 1) ?_ ?_ ?_;focus (cbv;done))
 all_goals(subst hO hr hF;(try simp only[nc]at*);(try simp only[aj,SS,sa,az]at*);(try rw[db Uc Uc]))
 all_goals first
  | (show(_:List DV)=_
     first
      |exact cd (dU i2 i0 Ud (show isSp os id i=true from by assumption)).symm
      |exact cd (eQ i2 Ud).symm
      |done)
  |omega
  |exact j4
  |(show(lk _ _).isSome=true;kernel_rfl)
  |exact cr
  |exact bU i2 (gC (show isSp os id i=false from by assumption))
  |trace_state
abbrev W4:di:=dH (fun F f=>match f with|151=>bE F|179=>bC F|_=>fun _=>none) (by
 intro f;dsimp only;split;exact cO;exact cH;exact dp)
def nV:EC:=fun F=>fun
 |[.agg hl_,.one (.v (.int Za ad))]=>hL hl_ fun a0 a1 a2 a3 a4 a5 a6 a7 a8 a9 aA aB aC aD aE aF aG aH aI aJ aK aL aM aN=>(fun _=>Rw [tI,tI,tI,tI] a8/\a8.length<=1099511627776,[.j (F.obI a8 ad)])
 |_=>none
def A1:ec 47 nV:=by
 intro _ _ _ h hp;dsimp only[nV,F0,hL]at h;split at h;rotate_left;cases h;split at h<;>cases h
 rename_i ad _ a0 a1 a2 a3 a4 a5 a6 a7 a8 a9 aA aB aC aD aE aF aG aH aI aJ aK aL aM aN;refine cb W4 Tryz.func47 ?_
 exact zq4
def mK:EC:=fun F=>fun
 |[.agg hl_,.one (.v (.int Za pg))]=>hL hl_ fun a0 a1 a2 a3 a4 a5 a6 a7 a8 a9 aA aB aC aD aE aF aG aH aI aJ aK aL aM aN=>(fun _=>Rw [tI,tI,tI] a6/\a6.length<=1099511627776,[.j (F.spI a6 pg)])
 |_=>none
def zC:ec 71 mK:=by
 intro _ _ _ h hp;dsimp only[mK,F0,hL]at h;split at h;rotate_left;cases h;split at h<;>cases h
 rename_i pg _ a0 a1 a2 a3 a4 a5 a6 a7 a8 a9 aA aB aC aD aE aF aG aH aI aJ aK aL aM aN;refine cb W4 Tryz.func71 ?_
 exact zq4
def fT:EC:=fun F=>fun
 |[.agg [.s 2 es],.one (.v (.int Za f))]=>some (fun _=>Rw [tI,tI] es/\es.length<=1099511627776,[.one (.s 1 (F.pagesOn es f))])
 |_=>none
def k8:ec 277 fT:=by
 intro _ _ _ h hp;dsimp only[fT,F0]at h;split at h<;>cases h
 rename_i es f;obtain⟨hw,hlen⟩:=hp;refine cb nB Tryz.func277 ?_
 intro O r F hO hr hF;cbv
 repeat' first|apply Zc|(apply cN<;>intro hb<;>cbv)|(refine⟨[1,5,10,11,12],[5],Int×af,fun s_=>match s_ with|(i,out)=>[.reg 12 (.j i),.reg 5 (.one (.vw 5 0 0 0 (O.ln out))),.leaf 5 0 ⟨0,0,none,.own (.s 1 out)⟩],fun s_=>match s_ with|(i,out)=>0<=i/\i<=(es.length:Int)/\out=ym es f i.toNat,fun s_=>match s_ with|(i,out)=>es.length-i.toNat,⟨(0,[]),?_,?_⟩,?_⟩;rotate_left;(focus (cbv;done));intro s_ hi;obtain⟨i,out⟩:=s_;replace hi:0<=i/\i<=(es.length:Int)/\out=ym es f i.toNat:=hi;obtain⟨i0,i1,i2⟩:=hi;cbv)|(refine ah (O.ar .add Za i 1,O.cat out (O.sub [[.i i]] 0 (O.ln [[.i i]]))) ?_ ?_ ?_;focus (cbv;done))|(refine ah (O.ar .add Za i 1,out) ?_ ?_ ?_;focus (cbv;done))
 all_goals(subst hO hr hF;(try simp only[nc]at*);(try simp only[aj,SS,sa,az]at*);(try rw[db Uc Uc]);(try(have hpl:=BF (es:=es) (f:=f) (n:=i.toNat);rw[<-i2]at hpl)))
 all_goals first|omega|exact j4|(exact⟨trivial,trivial⟩)|rfl|(simp only[Zi,Zk];omega)|(rw[Om i0 Ud Ud, <-i2])|(rw[Ld i0 (.inl Ud), <-i2])|(rw[Ld i0 (.inr Ud), <-i2])|exact BN (by rw[i2,show i.toNat=es.length from by omega];rfl)|trace_state
abbrev B1:di:=dH (fun F f=>match f with|33=>ap F|_=>fun _=>none) (by
 intro f;dsimp only;split;exact aw;exact dp)
def cD:EC:=fun F=>fun
 |[.agg [.s 2 es],.one (.v (.int Za p))]=>some (fun _=>Rw [tI,tI] es,[.agg [.i (F.peM es p),.i (F.peF es p)]])
 |_=>none
def de:ec 54 cD:=by
 intro _ _ _ h hp;dsimp only[cD,F0]at h;split at h<;>cases h
 rename_i es p;have hm:=hp.1;unfold maxLen at hm;have hsb:bQ .sub Za (es.length:Int) 1=es.length-1:=eR Uc;refine cb B1 Tryz.func54 ?_
 intro O r F hO hr hF;cbv
 repeat' first|apply Zc|(apply cN<;>intro hb<;>cbv)
 all_goals(subst hO hr hF;(try simp only[nc]at*);(try simp only[aj,SS,sa,az]at*);(try simp only[hsb]at*);(try simp only[ay,Au]at*))
 all_goals first|exact CH (Dx Uc).1.symm (Dx Uc).2.symm|exact CH (BE Uc).1.symm (BE Uc).2.symm|exact j4|trace_state
abbrev B2:di:=dH (fun F f=>match f with|54=>cD F|277=>fT F|_=>fun _=>none) (by
 intro f;dsimp only;split;exact de;exact k8;exact dp)
def d6:EC:=fun F=>fun
 |[.agg hl_,.one (.v (.int Za pg))]=>hL hl_ fun a0 a1 a2 a3 a4 a5 a6 a7 a8 a9 aA aB aC aD aE aF aG aH aI aJ aK aL aM aN=>(fun _=>Rw [tI,tI] a2/\a2.length<=1099511627776,[.one (.s 1 (F.fpg a2 pg))])
 |_=>none
def iu:ec 169 d6:=by
 intro _ _ _ h hp;dsimp only[d6,F0,hL]at h;split at h;rotate_left;cases h;split at h<;>cases h
 rename_i pg _ a0 a1 a2 a3 a4 a5 a6 a7 a8 a9 aA aB aC aD aE aF aG aH aI aJ aK aL aM aN;obtain⟨hw,hn⟩:=hp;refine cb B2 Tryz.func169 ?_
 intro O r F hO hr hF;cbv
 repeat' first|apply Zc|(apply cN<;>intro hb<;>cbv)
 all_goals(subst hO hr hF;(try simp only[nc]at*);(try simp only[aj,SS,sa,az]at*))
 all_goals first
  | (show(_:List DV)=_
     first
      |exact BN (SP Ud).symm
      |exact BN (No Ud).symm
      |done)
  |exact⟨hw,hn⟩
  |exact hw
  |exact⟨Zd,Zd⟩
  |trace_state
def eZ:EC:=fun F=>fun
 |[.one (.s 1 l),.one (.v (.int Za x))]=>some (fun _=>Rw [tI] l/\l.length<=1099511627776,[.j (F.idxI l x)])
 |_=>none
def nS:ec 380 eZ:=by
 intro _ _ _ h hp;dsimp only[eZ,F0]at h;split at h<;>cases h
 rename_i l x;obtain⟨hw,hn⟩:=hp;refine cb nB Tryz.func380 ?_
 intro O r F hO hr hF;cbv
 repeat' first|apply Zc|(apply cN<;>intro hb<;>cbv)|(refine⟨[0,1,7,8],[0],Int,fun i=>[.reg 8 (.j i)],fun i=>0<=i/\i<=((l.length:Nat):Int)/\upto (cY (isX l x)) i,fun i=>(l.length)-i.toNat,⟨0,?_,?_⟩,?_⟩;rotate_left;(focus (cbv;done));intro i hi;replace hi:0<=i/\i<=((l.length:Nat):Int)/\upto (cY (isX l x)) i:=hi;obtain⟨i0,i1,i2⟩:=hi;cbv)|(refine ah (O.ar .add Za i 1) ?_ ?_ ?_;focus (cbv;done))
 all_goals(subst hO hr hF;(try simp only[nc]at*);(try simp only[aj,SS,sa,az]at*);(try rw[db Uc Uc]))
 all_goals first
  | (show(_:List DV)=_
     first
      |exact cd (dU i2 i0 Ud (show isX l x i=true from JP Ud)).symm
      |exact cd (eQ i2 Ud).symm
      |done)
  |omega
  |exact j4
  |exact cr
  |exact bU i2 (gC (show isX l x i=false from PM Ud))
  |trace_state
abbrev B3:di:=dH (fun F f=>match f with|380=>eZ F|_=>fun _=>none) (by
 intro f;dsimp only;split;exact nS;exact dp)
def dq:EC:=fun F=>fun
 |[.one (.s 1 l),.one (.v (.int Za x))]=>some (fun _=>Rw [tI] l/\l.length<=1099511627776,[.k (F.hasB l x)])
 |_=>none
def gz:ec 329 dq:=by
 intro _ _ _ h hp;dsimp only[dq,F0]at h;split at h<;>cases h
 rename_i l x;refine cb B3 Tryz.func329 ?_
 intro O r F hO hr hF;cbv
 repeat' first|apply Zc|(apply cN<;>intro hb<;>cbv)
 all_goals(subst hO hr hF;(try simp only[nc]at*);(try simp only[aj,SS,sa,az]at*))
 all_goals first
  | (show(_:List DV)=_
     first
      |exact ax (show du .geq (idxI l x) 0=decide (0<=idxI l x)from rfl)
      |done)
  |exact hp
  |trace_state
abbrev B4:di:=dH (fun F f=>match f with|33=>ap F|169=>d6 F|329=>dq F|_=>fun _=>none) (by
 intro f;dsimp only;split;exact aw;exact iu;exact gz;exact dp)
def gR:EC:=fun F=>fun
 |[.agg hl_,.one (.v (.int Za ix))]=>hL hl_ fun a0 a1 a2 a3 a4 a5 a6 a7 a8 a9 aA aB aC aD aE aF aG aH aI aJ aK aL aM aN=>(fun _=>Rw [tI,tI] a2/\Rw [tI,tI,tI] a6/\a2.length<=1099511627776/\a6.length<=1099511627776,[.j (F.ubB a2 a6 ix)])
 |_=>none
def oK:ec 256 gR:=by
 intro _ _ _ h hp;dsimp only[gR,F0,hL]at h;split at h;rotate_left;cases h;split at h<;>cases h
 rename_i ix _ a0 a1 a2 a3 a4 a5 a6 a7 a8 a9 aA aB aC aD aE aF aG aH aI aJ aK aL aM aN;obtain⟨he,hw,hm,hn⟩:=hp;refine cb B4 Tryz.func256 ?_
 intro O r F hO hr hF;cbv
 repeat' first|apply Zc|(apply cN<;>intro hb<;>cbv)|(refine⟨[5,6,31,32,33],[6],Int×Int,fun s_=>match s_ with|(i,b)=>[.reg 33 (.j i),.reg 5 (.j b)],fun s_=>match s_ with|(i,b)=>0<=i/\i<=(a6.length:Int)/\b=IM a6 (fpg a2 (ag a6 ix 0)) (ag a6 ix 2) i.toNat,fun s_=>match s_ with|(i,b)=>a6.length-i.toNat,⟨(0,O.gi a6 ix 2),?_,?_⟩,?_⟩;rotate_left;(focus (cbv;done));intro s_ hi;obtain⟨i,b⟩:=s_;replace hi:0<=i/\i<=(a6.length:Int)/\b=IM a6 (fpg a2 (ag a6 ix 0)) (ag a6 ix 2) i.toNat:=hi;obtain⟨i0,i1,i2⟩:=hi;cbv)|(refine ah (O.ar .add Za i 1,b) ?_ ?_ ?_;focus (cbv;done))|(refine ah (O.ar .add Za i 1,O.ar .or Za b (O.gi a6 i 2)) ?_ ?_ ?_;focus (cbv;done))
 all_goals(subst hO hr hF;(try simp only[nc]at*);(try simp only[aj,SS,sa,az]at*))
 all_goals(have hsb:bQ .sub Za (a6.length:Int) 1=a6.length-1:=eR Uc;(try simp only[hsb]at*);(try(have hz:=ay.1 (‹inR ix 0 ((a6.length:Int)-1)=true›))))
 all_goals(have hfp:=SQ (es:=a2) (p:=ag a6 ix 0) hm;(try rw[db Uc Uc]))
 all_goals first
  | (show(_:List DV)=_
     first
      |exact cd (agt Ud).symm
      |exact cd ((i2.trans (by rw[show i.toNat=a6.length by omega])).trans (abD Ud).symm)
      |done)
  | (show(_:Int)=_
     first
      |(rw[Pb i0 Ud, <-i2])
      |(rw[abC i0 Ud, <-i2])
      |exact(rfl:ag a6 ix 2=IM a6 (fpg a2 (ag a6 ix 0)) (ag a6 ix 2) 0)
      |done)
  |omega
  |(show bz _ _=true;kernel_rfl)
  |exact j4
  |exact⟨he,hm⟩
  |exact⟨Zd,Zd⟩
  |trace_state
abbrev C1:di:=dH (fun F f=>match f with|33=>ap F|_=>fun _=>none) (by
 intro f;dsimp only;split;exact aw;exact dp)
def gJ:EC:=fun F=>fun
 |[.one (.v (.int Za b)),.one (.v (.int Za i))]=>some (fun _=>True,[.k (F.slB b i)])
 |_=>none
def mG:ec 331 gJ:=by
 intro _ _ _ h hp;dsimp only[gJ,F0]at h;split at h<;>cases h
 rename_i b i;refine cb C1 Tryz.func331 ?_
 intro O r F hO hr hF;cbv
 repeat' first|apply Zc|(apply cN<;>intro hb<;>cbv)
 all_goals(subst hO hr hF;(try simp only[nc]at*);(try simp only[aj,SS,sa,az]at*))
 all_goals first
  | (show(_:List DV)=_
     first
      |exact ax (by unfold slB;rw[VL Ud];rfl)
      |exact ax (by unfold slB;rw[VM Uc];rfl)
      |done)
  |trace_state
abbrev C2:di:=dH (fun F f=>match f with|331=>gJ F|_=>fun _=>none) (by
 intro f;dsimp only;split;exact mG;exact dp)
def dy:EC:=fun F=>fun
 |[.one (.v (.int Za b)),.one (.v (.int Za i))]=>some (fun _=>True,[.k (F.hsB b i)])
 |_=>none
def eL:ec 273 dy:=by
 intro _ _ _ h hp;dsimp only[dy,F0]at h;split at h<;>cases h
 rename_i b i;refine cb C2 Tryz.func273 ?_
 intro O r F hO hr hF;cbv
 repeat' first|apply Zc|(apply cN<;>intro hb<;>cbv)
 all_goals(subst hO hr hF;(try simp only[nc]at*);(try simp only[aj,SS,sa,az]at*);(try(have hs:=DN.1 (‹slB b i=true›);have hw:=zg hs.2.1 hs.2.2;simp only[hw]at*)))
 all_goals first
  | (show(_:List DV)=_
     first
      |exact ax (Ke Ud).symm
      |(refine ax (o8 ?_);unfold hsB;rw[show slB b i=true from by assumption,Bool.true_and,VN];simp only[SS])
      |done)
  |omega
  |trace_state
abbrev C3:di:=dH (fun F f=>match f with|273=>dy F|_=>fun _=>none) (by
 intro f;dsimp only;split;exact eL;exact dp)
def iy:EC:=fun F=>fun
 |[.one (.v (.int Za b))]=>some (fun _=>True,[.j (F.ctI b)])
 |_=>none
def rV:ec 286 iy:=by
 intro _ _ _ h hp;dsimp only[iy,F0]at h;split at h<;>cases h
 rename_i b;refine cb C3 Tryz.func286 ?_
 intro O r F hO hr hF;cbv
 repeat' first|apply Zc|(apply cN<;>intro hb<;>cbv)|(refine⟨[0,3,4],[],Int×Int,fun s_=>match s_ with|(i,n)=>[.reg 4 (.j i),.reg 3 (.j n)],fun s_=>match s_ with|(i,n)=>0<=i/\i<=16/\n=IZ b i.toNat,fun s_=>match s_ with|(i,n)=>(16-i).toNat,⟨(0,0),?_,?_⟩,?_⟩;rotate_left;(focus (cbv;done));intro s_ hi;obtain⟨i,n⟩:=s_;replace hi:0<=i/\i<=16/\n=IZ b i.toNat:=hi;obtain⟨i0,i1,i2⟩:=hi;cbv)|(refine ah (O.ar .add Za i 1,n) ?_ ?_ ?_;focus (cbv;done))|(refine ah (O.ar .add Za i 1,O.ar .add Za n 1) ?_ ?_ ?_;focus (cbv;done))
 all_goals(subst hO hr hF;(try simp only[nc]at*);(try simp only[aj,SS,sa,az]at*);(try rw[db (i:=i) Uc Uc]))
 all_goals first
  | (show(_:List DV)=_
     first
      |exact cd (i2.trans (by rw[show i=16 by omega];rfl))
      |done)
  | (show(_:Int)=_
     first
      |(rw[Sk i0 Ud, <-i2])
      |(rw[acp i0 Ud, <-i2])
      |exact(rfl:(0:Int)=IZ b 0)
      |done)
  |omega
  |trace_state
abbrev C4:di:=dH (fun F f=>match f with|286=>iy F|169=>d6 F|_=>fun _=>none) (by
 intro f;dsimp only;split;exact rV;exact iu;exact dp)
def jv:EC:=fun F=>fun
 |[.agg hl_]=>hL hl_ fun a0 a1 a2 a3 a4 a5 a6 a7 a8 a9 aA aB aC aD aE aF aG aH aI aJ aK aL aM aN=>(fun _=>Rw [tI,tI] a2/\Rw [tI,tI,tI] a6/\a2.length<=1099511627776/\a6.length<=1099511627776,[.one (.s 3 (F.msS a2 a6))])
 |_=>none
def tY:ec 184 jv:=by
 intro _ _ _ h hp;dsimp only[jv,F0,hL]at h;split at h;rotate_left;cases h;split at h<;>cases h
 rename_i a0 a1 a2 a3 a4 a5 a6 a7 a8 a9 aA aB aC aD aE aF aG aH aI aJ aK aL aM aN;obtain⟨he,hw,hm,hn⟩:=hp;refine cb C4 Tryz.func184 ?_
 intro O r F hO hr hF;cbv
 repeat' first|apply Zc|(apply cN<;>intro hb<;>cbv)|(refine⟨[1,3,8,9,10],[1,3],Int×af,fun s_=>match s_ with|(i,out)=>[.reg 10 (.j i),.reg 3 (.one (.vw 3 0 0 0 (O.ln out))),.leaf 3 0 ⟨0,0,none,.own (.s 3 out)⟩],fun s_=>match s_ with|(i,out)=>0<=i/\i<=(a6.length:Int)/\out=Er a2 a6 i.toNat,fun s_=>match s_ with|(i,out)=>a6.length-i.toNat,⟨(0,[]),?_,?_⟩,?_⟩;rotate_left;(focus (cbv;done));intro s_ hi;obtain⟨i,out⟩:=s_;replace hi:0<=i/\i<=(a6.length:Int)/\out=Er a2 a6 i.toNat:=hi;obtain⟨i0,i1,i2⟩:=hi;cbv)|(refine ah (O.ar .add Za i 1,O.cat out (O.sub [[.i (O.gi a6 i 0),.i (O.gi a6 i 1),.i (O.gi a6 i 2)]] 0 (O.ln [[.i (O.gi a6 i 0),.i (O.gi a6 i 1),.i (O.gi a6 i 2)]]))) ?_ ?_ ?_;focus (cbv;done))|(refine ah (O.ar .add Za i 1,out) ?_ ?_ ?_;focus (cbv;done))
 all_goals(subst hO hr hF;(try simp only[nc]at*);(try simp only[aj,SS,sa,az]at*);(try rw[db Uc Uc]);(try(have hpl:=wK (es:=a2) (ss:=a6) (n:=i.toNat);rw[<-i2]at hpl)))
 all_goals first
  | (show(_:List DV)=_
     first
      |exact BN (by rw[i2,show i.toNat=a6.length by omega];rfl)
      |done)
  | (show(_:af)=_
     first
      |(rw[aax i0 Uc Uc, <-i2];rfl)
      |(rw[aeg i0 Uc, <-i2])
      |exact(rfl:[]=Er a2 a6 0)
      |done)
  |omega
  |exact j4
  |exact⟨he,hm⟩
  |(simp[bM,eJ,scal];done)
  |(simp only[Zi,Zk];omega)
  |trace_state
end Go.V