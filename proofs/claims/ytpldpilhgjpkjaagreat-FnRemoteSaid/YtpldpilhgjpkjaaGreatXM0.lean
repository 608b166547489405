/- Contracts. -/
import Derived.Test.YtpldpilhgjpkjaaGreatXFnv
set_option linter.all false
open Go
open And renaming intro->Zd
open IntKind renaming i64->Za
open True renaming intro->Zb
namespace Go.V
open Go Go.Proofs
set_option maxRecDepth 1000000
set_option maxHeartbeats 8000000
def ay:EC:=fun F=>fun
 |[.one (.v (.int Za x)),.one (.v (.int Za a)),.one (.v (.int Za b))]=>some (fun _=>True,[.k (F.inR x a b)])
 |_=>none
theorem aS:ec 33 ay:=by
 intro _ _ _ h hp;dsimp only[ay,F0]at h;split at h<;>cases h
 rename_i x a b;refine cb nB Tryz.func33 ?_
 intro O r F hO hr hF;cbv
 repeat' first|apply Zd|(apply cP<;>intro hb<;>cbv)
 all_goals(subst hO hr hF;(try simp only[nc]at*);(try simp only[aj,SS,sa,az]at*))
 all_goals refine av ?_
 ·exact lB (by rw[be];simp only[SS];omega)
 ·exact(ym.2 (by omega)).symm
abbrev F4:dp:=d4 (fun F f=>match f with|33=>ay F|_=>fun _=>none) (by
 intro f;dsimp only;split;exact aS;exact dB)
def dj:EC:=fun F=>fun
 |[.one (.v (.int Za k))]=>some (fun _=>True,[.k (F.inR k 0 3)])
 |_=>none
theorem d9:ec 157 dj:=by
 intro _ _ _ h hp;dsimp only[dj,F0]at h;split at h<;>cases h
 rename_i k;refine cb F4 Tryz.func157 ?_
 intro O r F hO hr hF;cbv
 repeat' first|apply Zd|(apply cP<;>intro hb<;>cbv)
 all_goals(subst hO hr hF;(try simp only[nc]at*);(try simp only[aj,SS,sa,az]at*))
 all_goals first|trivial|trace_state
abbrev F5:dp:=d4 (fun F f=>match f with|157=>dj F|_=>fun _=>none) (by
 intro f;dsimp only;split;exact d9;exact dB)
def cn:EC:=fun F=>fun
 |[.one (.v (.int Za k))]=>some (fun _=>True,[.j (F.clsSz k)])
 |_=>none
theorem cS:ec 56 cn:=by
 intro _ _ _ h hp;dsimp only[cn,F0]at h;split at h<;>cases h
 rename_i k;refine cb F5 Tryz.func56 ?_
 intro O r F hO hr hF;cbv
 repeat' first|apply Zd|(apply cP<;>intro hb<;>cbv)
 all_goals(subst hO hr hF;(try simp only[nc]at*);(try simp only[aj,SS,sa,az]at*))
 all_goals first|exact cB (TC (by assumption)).symm|(refine cB ?_;rw[TD (by assumption)])|(rw[be]at*;omega)|trace_state
abbrev F6:dp:=d4 (fun F f=>match f with|33=>ay F|56=>cn F|_=>fun _=>none) (by
 intro f;dsimp only;split;exact aS;exact cS;exact dB)
def ea:EC:=fun F=>fun
 |[.one (.v (.int Za s))]=>some (fun _=>True,[.j (F.clsOf s)])
 |_=>none
theorem gZ:ec 38 ea:=by
 intro _ _ _ h hp;dsimp only[ea,F0]at h;split at h<;>cases h
 rename_i s;refine cb F6 Tryz.func38 ?_
 intro O r F hO hr hF;cbv
 repeat' first|apply Zd|(apply cP<;>intro hb<;>cbv)|(refine⟨[0,3],[],Int,fun k=>[.reg 3 (.j k)],fun k=>0<=k/\k<=3/\(k=0\/clsSz (k-1)<s),fun k=>(3-k).toNat,⟨0,?_,?_⟩,?_⟩;rotate_left;(focus (cbv;done));intro k hk;replace hk:0<=k/\k<=3/\(k=0\/clsSz (k-1)<s):=hk;obtain⟨k0,k1,k2⟩:=hk;cbv)|(refine ah (O.ar .add Za k 1) ?_ ?_ ?_;focus (cbv;done))
 all_goals(subst hO hr hF;(try simp only[nc]at*);(try simp only[aj,SS,sa,az]at*);(try simp only[be,ym]at*);(try rw[dx (by omega) (by omega)]))
 all_goals first|trivial|omega|exact MV (by omega) (by assumption) (by omega)|(have:=MV (k:=k) (s:=s) (by omega) (by assumption) (by omega);omega)|exact cB (Tw (by omega)).symm|exact cB (Pf (by omega) (by assumption) (by omega) (by assumption)).symm|exact .inl trivial|(rw[show k+1-1=k by omega];exact .inr (by assumption))|trace_state
def iS:EC:=fun F=>fun
 |[.agg hl_]=>hL hl_ fun a0 a1 a2 a3 a4 a5 a6 a7 a8 a9 aA aB aC aD aE aF aG aH aI aJ aK aL aM aN=>(fun _=>Rw [tI,tI,tI,tI] a8/\a8.length<=1099511627776,[.j (F.lsI a8)])
 |_=>none
theorem rY:ec 37 iS:=by
 intro _ _ _ h hp;dsimp only[iS,F0,hL]at h;split at h;rotate_left;cases h;split at h<;>cases h
 rename_i a0 a1 a2 a3 a4 a5 a6 a7 a8 a9 aA aB aC aD aE aF aG aH aI aJ aK aL aM aN;obtain⟨hw,hn⟩:=hp;refine cb nB Tryz.func37 ?_
 intro O r F hO hr hF;cbv
 repeat' first|apply Zd|(apply cP<;>intro hb<;>cbv)|(refine⟨[3,7,8,9],[],Int×Int,fun s_=>match s_ with|(i,n)=>[.reg 9 (.j i),.reg 3 (.j n)],fun s_=>match s_ with|(i,n)=>0<=i/\i<=(a8.length:Int)/\n=BV (szF a8) i.toNat,fun s_=>match s_ with|(i,n)=>a8.length-i.toNat,⟨(0,0),?_,?_⟩,?_⟩;rotate_left;(focus (cbv;done));intro s_ hi;obtain⟨i,n⟩:=s_;replace hi:0<=i/\i<=(a8.length:Int)/\n=BV (szF a8) i.toNat:=hi;obtain⟨i0,i1,i2⟩:=hi;cbv)|(refine ah (O.ar .add Za i 1,O.ar .add Za n (O.gi a8 i 2)) ?_ ?_ ?_;focus (cbv;done))
 all_goals(subst hO hr hF;(try simp only[nc]at*);(try simp only[aj,SS,sa,az]at*);(try rw[dx (by omega) (by omega)]))
 all_goals first
  | (show(_:List DV)=_
     first
      |exact cB (by rw[i2,show i.toNat=a8.length by omega];rfl)
      |done)
  | (show(_:Int)=_
     first
      |(rw[Mr i0, <-i2];rfl)
      |exact(rfl:(0:Int)=BV (szF a8) 0)
      |done)
  |omega
  |exact fK
  |trivial
  |exact⟨trivial,trivial⟩
  |trace_state
abbrev W1:dp:=d4 (fun F f=>match f with|38=>ea F|56=>cn F|_=>fun _=>none) (by
 intro f;dsimp only;split;exact gZ;exact cS;exact dB)
def kE:EC:=fun F=>fun
 |[.agg [.v (.int Za d0),.v (.int Za d1),.v (.int Za d2),.v (.int Za d3)],.ptr [.v (.int Za ad)]]=>some (fun _=>True,[.k (F.eqB d1 ad)])
 |_=>none
theorem vq:ec 152 kE:=by
 intro _ _ _ h hp;dsimp only[kE,F0]at h;split at h<;>cases h
 rename_i d0 d1 d2 d3 ad;refine cb nB Tryz.func152 ?_
 intro O r F hO hr hF;cbv
 repeat' first|apply Zd|(apply cP<;>intro hb<;>cbv)
 all_goals(subst hO hr hF;(try simp only[nc]at*);(try simp only[aj,SS,sa,az]at*))
 all_goals first
  | (show(_:List DV)=_
     first
      |exact av (ya (by assumption)).symm
      |exact av (A5 (by assumption)).symm
      |exact av (lB (by unfold eqB;simp only[SS,VR]))
      |done)
  |trivial
  |trace_state
def jT:EC:=fun F=>fun
 |[.agg [.v (.int Za d0),.v (.int Za d1),.v (.int Za d2)],.ptr [.v (.int Za pg)]]=>some (fun _=>True,[.k (F.eqB d0 pg)])
 |_=>none
theorem ug:ec 180 jT:=by
 intro _ _ _ h hp;dsimp only[jT,F0]at h;split at h<;>cases h
 rename_i d0 d1 d2 pg;refine cb nB Tryz.func180 ?_
 intro O r F hO hr hF;cbv
 repeat' first|apply Zd|(apply cP<;>intro hb<;>cbv)
 all_goals(subst hO hr hF;(try simp only[nc]at*);(try simp only[aj,SS,sa,az]at*))
 all_goals first
  | (show(_:List DV)=_
     first
      |exact av (lB (by unfold eqB;simp only[SS,VR]))
      |done)
  |trace_state
abbrev W3:dp:=d4 (fun F f=>match f with|152=>kE F|180=>jT F|_=>fun _=>none) (by
 intro f;dsimp only;split;exact vq;exact ug;exact dB)
def bu:EC:=fun F=>fun
 |[.one (.s 4 os),.fn 152 [[.v (.int Za id)]]]=>some (fun _=>Rw [tI,tI,tI,tI] os/\os.length<=1099511627776,[.j (F.obI os id)])
 |_=>none
theorem cD:ec 151 bu:=by
 intro _ _ _ h hp;dsimp only[bu,F0]at h;split at h<;>cases h
 rename_i os id;obtain⟨hw,hn⟩:=hp;refine cb W3 Tryz.func151 ?_
 intro O r F hO hr hF;cbv
 repeat' first|apply Zd|(apply cP<;>intro hb<;>cbv)|(refine⟨[0,1,7,8],[0],Int,fun i=>[.reg 8 (.j i)],fun i=>0<=i/\i<=((os.length:Nat):Int)/\upto (cR (Br os id)) i,fun i=>(os.length)-i.toNat,⟨0,?_,?_⟩,?_⟩;rotate_left;(focus (cbv;done));intro i hi;replace hi:0<=i/\i<=((os.length:Nat):Int)/\upto (cR (Br os id)) i:=hi;obtain⟨i0,i1,i2⟩:=hi;cbv)|(refine ah (O.ar .add Za i 1) ?_ ?_ ?_;focus (cbv;done))
 all_goals(subst hO hr hF;(try simp only[nc]at*);(try simp only[aj,SS,sa,az]at*);(try rw[dx (by omega) (by omega)]))
 all_goals first
  | (show(_:List DV)=_
     first
      |exact cB (dI i2 i0 (by assumption) (show Br os id i=true from by assumption)).symm
      |exact cB (dI i2 i0 (by assumption) (show Br os id i=true from ya (by assumption))).symm
      |exact cB (eN i2 (by assumption)).symm
      |done)
  |omega
  |exact fK
  |(show(lk _ _).isSome=true;kernel_rfl)
  |exact cg
  |exact bN i2 (gj (show Br os id i=false from by assumption))
  |exact bN i2 (gj (show Br os id i=false from A5 (by assumption)))
  |exact⟨trivial,trivial⟩
  |trivial
  |trace_state
def bh:EC:=fun F=>fun
 |[.one (.s 3 os),.fn 180 [[.v (.int Za id)]]]=>some (fun _=>Rw [tI,tI,tI] os/\os.length<=1099511627776,[.j (F.spI os id)])
 |_=>none
theorem cr:ec 179 bh:=by
 intro _ _ _ h hp;dsimp only[bh,F0]at h;split at h<;>cases h
 rename_i os id;obtain⟨hw,hn⟩:=hp;refine cb W3 Tryz.func179 ?_
 intro O r F hO hr hF;cbv
 repeat' first|apply Zd|(apply cP<;>intro hb<;>cbv)|(refine⟨[0,1,7,8],[0],Int,fun i=>[.reg 8 (.j i)],fun i=>0<=i/\i<=((os.length:Nat):Int)/\upto (cR (isSp os id)) i,fun i=>(os.length)-i.toNat,⟨0,?_,?_⟩,?_⟩;rotate_left;(focus (cbv;done));intro i hi;replace hi:0<=i/\i<=((os.length:Nat):Int)/\upto (cR (isSp os id)) i:=hi;obtain⟨i0,i1,i2⟩:=hi;cbv)|(refine ah (O.ar .add Za i 1) ?_ ?_ ?_;focus (cbv;done))
 all_goals(subst hO hr hF;(try simp only[nc]at*);(try simp only[aj,SS,sa,az]at*);(try rw[dx (by omega) (by omega)]))
 all_goals first
  | (show(_:List DV)=_
     first
      |exact cB (dI i2 i0 (by assumption) (show isSp os id i=true from by assumption)).symm
      |exact cB (eN i2 (by assumption)).symm
      |done)
  |omega
  |exact fK
  |(show(lk _ _).isSome=true;kernel_rfl)
  |exact cg
  |exact bN i2 (gj (show isSp os id i=false from by assumption))
  |trace_state
abbrev W4:dp:=d4 (fun F f=>match f with|151=>bu F|179=>bh F|_=>fun _=>none) (by
 intro f;dsimp only;split;exact cD;exact cr;exact dB)
def mX:EC:=fun F=>fun
 |[.agg hl_,.one (.v (.int Za ad))]=>hL hl_ fun a0 a1 a2 a3 a4 a5 a6 a7 a8 a9 aA aB aC aD aE aF aG aH aI aJ aK aL aM aN=>(fun _=>Rw [tI,tI,tI,tI] a8/\a8.length<=1099511627776,[.j (F.obI a8 ad)])
 |_=>none
theorem yU:ec 47 mX:=by
 intro _ _ _ h hp;dsimp only[mX,F0,hL]at h;split at h;rotate_left;cases h;split at h<;>cases h
 rename_i ad _ a0 a1 a2 a3 a4 a5 a6 a7 a8 a9 aA aB aC aD aE aF aG aH aI aJ aK aL aM aN;refine cb W4 Tryz.func47 ?_
 intro O r F hO hr hF;cbv
 repeat' first|apply Zd|(apply cP<;>intro hb<;>cbv)
 all_goals(subst hO hr hF;(try simp only[nc]at*);(try simp only[aj,SS,sa,az]at*))
 all_goals first|exact hp|exact rfl|trivial|trace_state
def lT:EC:=fun F=>fun
 |[.agg hl_,.one (.v (.int Za pg))]=>hL hl_ fun a0 a1 a2 a3 a4 a5 a6 a7 a8 a9 aA aB aC aD aE aF aG aH aI aJ aK aL aM aN=>(fun _=>Rw [tI,tI,tI] a6/\a6.length<=1099511627776,[.j (F.spI a6 pg)])
 |_=>none
theorem xC:ec 71 lT:=by
 intro _ _ _ h hp;dsimp only[lT,F0,hL]at h;split at h;rotate_left;cases h;split at h<;>cases h
 rename_i pg _ a0 a1 a2 a3 a4 a5 a6 a7 a8 a9 aA aB aC aD aE aF aG aH aI aJ aK aL aM aN;refine cb W4 Tryz.func71 ?_
 intro O r F hO hr hF;cbv
 repeat' first|apply Zd|(apply cP<;>intro hb<;>cbv)
 all_goals(subst hO hr hF;(try simp only[nc]at*);(try simp only[aj,SS,sa,az]at*))
 all_goals first|exact hp|exact rfl|trace_state
def fA:EC:=fun F=>fun
 |[.agg [.s 2 es],.one (.v (.int Za f))]=>some (fun _=>Rw [tI,tI] es/\es.length<=1099511627776,[.one (.s 1 (F.pagesOn es f))])
 |_=>none
theorem ku:ec 277 fA:=by
 intro _ _ _ h hp;dsimp only[fA,F0]at h;split at h<;>cases h
 rename_i es f;obtain⟨hw,hlen⟩:=hp;refine cb nB Tryz.func277 ?_
 intro O r F hO hr hF;cbv
 repeat' first|apply Zd|(apply cP<;>intro hb<;>cbv)|(refine⟨[1,5,10,11,12],[5],Int×af,fun s_=>match s_ with|(i,out)=>[.reg 12 (.j i),.reg 5 (.one (.vw 5 0 0 0 (O.ln out))),.leaf 5 0 ⟨0,0,none,.own (.s 1 out)⟩],fun s_=>match s_ with|(i,out)=>0<=i/\i<=(es.length:Int)/\out=wv es f i.toNat,fun s_=>match s_ with|(i,out)=>es.length-i.toNat,⟨(0,[]),?_,?_⟩,?_⟩;rotate_left;(focus (cbv;done));intro s_ hi;obtain⟨i,out⟩:=s_;replace hi:0<=i/\i<=(es.length:Int)/\out=wv es f i.toNat:=hi;obtain⟨i0,i1,i2⟩:=hi;cbv)|(refine ah (O.ar .add Za i 1,O.cat out (O.sub [[.i i]] 0 (O.ln [[.i i]]))) ?_ ?_ ?_;focus (cbv;done))|(refine ah (O.ar .add Za i 1,out) ?_ ?_ ?_;focus (cbv;done))
 all_goals(subst hO hr hF;(try simp only[nc]at*);(try simp only[aj,SS,sa,az]at*);(try rw[dx (by omega) (by omega)]);(try(have hpl:=zG (es:=es) (f:=f) (n:=i.toNat);rw[<-i2]at hpl)))
 all_goals first|omega|exact fK|(exact⟨trivial,trivial⟩)|rfl|(simp only[List.length_cons,List.length_nil];omega)|(rw[LR i0 (by assumption) (by assumption), <-i2])|(rw[Ja i0 (.inl (by assumption)), <-i2])|(rw[Ja i0 (.inr (by assumption)), <-i2])|exact D7 (by rw[i2,show i.toNat=es.length from by omega];rfl)|trace_state
abbrev B1:dp:=d4 (fun F f=>match f with|33=>ay F|_=>fun _=>none) (by
 intro f;dsimp only;split;exact aS;exact dB)
def cZ:EC:=fun F=>fun
 |[.agg [.s 2 es],.one (.v (.int Za p))]=>some (fun _=>Rw [tI,tI] es,[.agg [.i (F.peM es p),.i (F.peF es p)]])
 |_=>none
theorem d7:ec 54 cZ:=by
 intro _ _ _ h hp;dsimp only[cZ,F0]at h;split at h<;>cases h
 rename_i es p;have hm:=hp.1;unfold maxLen at hm;have hsb:bO .sub Za (es.length:Int) 1=es.length-1:=gg (by omega);refine cb B1 Tryz.func54 ?_
 intro O r F hO hr hF;cbv
 repeat' first|apply Zd|(apply cP<;>intro hb<;>cbv)
 all_goals(subst hO hr hF;(try simp only[nc]at*);(try simp only[aj,SS,sa,az]at*);(try simp only[hsb]at*);(try simp only[be,ym]at*))
 all_goals first|exact MJ (Fw (by omega)).1.symm (Fw (by omega)).2.symm|exact MJ (I9 (by omega)).1.symm (I9 (by omega)).2.symm|exact fK|trace_state
abbrev B2:dp:=d4 (fun F f=>match f with|54=>cZ F|277=>fA F|_=>fun _=>none) (by
 intro f;dsimp only;split;exact d7;exact ku;exact dB)
def ff:EC:=fun F=>fun
 |[.agg hl_,.one (.v (.int Za pg))]=>hL hl_ fun a0 a1 a2 a3 a4 a5 a6 a7 a8 a9 aA aB aC aD aE aF aG aH aI aJ aK aL aM aN=>(fun _=>Rw [tI,tI] a2/\a2.length<=1099511627776,[.one (.s 1 (F.fpg a2 pg))])
 |_=>none
theorem lC:ec 169 ff:=by
 intro _ _ _ h hp;dsimp only[ff,F0,hL]at h;split at h;rotate_left;cases h;split at h<;>cases h
 rename_i pg _ a0 a1 a2 a3 a4 a5 a6 a7 a8 a9 aA aB aC aD aE aF aG aH aI aJ aK aL aM aN;obtain⟨hw,hn⟩:=hp;refine cb B2 Tryz.func169 ?_
 intro O r F hO hr hF;cbv
 repeat' first|apply Zd|(apply cP<;>intro hb<;>cbv)
 all_goals(subst hO hr hF;(try simp only[nc]at*);(try simp only[aj,SS,sa,az]at*))
 all_goals first
  | (show(_:List DV)=_
     first
      |exact D7 (PP (by assumption)).symm
      |exact D7 (KX (by assumption)).symm
      |done)
  |exact⟨hw,hn⟩
  |exact hw
  |exact⟨Zb,Zb⟩
  |trace_state
def eC:EC:=fun F=>fun
 |[.one (.s 1 l),.one (.v (.int Za x))]=>some (fun _=>Rw [tI] l/\l.length<=1099511627776,[.j (F.idxI l x)])
 |_=>none
theorem mU:ec 380 eC:=by
 intro _ _ _ h hp;dsimp only[eC,F0]at h;split at h<;>cases h
 rename_i l x;obtain⟨hw,hn⟩:=hp;refine cb nB Tryz.func380 ?_
 intro O r F hO hr hF;cbv
 repeat' first|apply Zd|(apply cP<;>intro hb<;>cbv)|(refine⟨[0,1,7,8],[0],Int,fun i=>[.reg 8 (.j i)],fun i=>0<=i/\i<=((l.length:Nat):Int)/\upto (cR (isX l x)) i,fun i=>(l.length)-i.toNat,⟨0,?_,?_⟩,?_⟩;rotate_left;(focus (cbv;done));intro i hi;replace hi:0<=i/\i<=((l.length:Nat):Int)/\upto (cR (isX l x)) i:=hi;obtain⟨i0,i1,i2⟩:=hi;cbv)|(refine ah (O.ar .add Za i 1) ?_ ?_ ?_;focus (cbv;done))
 all_goals(subst hO hr hF;(try simp only[nc]at*);(try simp only[aj,SS,sa,az]at*);(try rw[dx (by omega) (by omega)]))
 all_goals first
  | (show(_:List DV)=_
     first
      |exact cB (dI i2 i0 (by assumption) (show isX l x i=true from ya (by assumption))).symm
      |exact cB (eN i2 (by assumption)).symm
      |done)
  |omega
  |exact fK
  |exact cg
  |exact bN i2 (gj (show isX l x i=false from A5 (by assumption)))
  |trace_state
abbrev B3:dp:=d4 (fun F f=>match f with|380=>eC F|_=>fun _=>none) (by
 intro f;dsimp only;split;exact mU;exact dB)
def cV:EC:=fun F=>fun
 |[.one (.s 1 l),.one (.v (.int Za x))]=>some (fun _=>Rw [tI] l/\l.length<=1099511627776,[.k (F.hasB l x)])
 |_=>none
theorem gd:ec 329 cV:=by
 intro _ _ _ h hp;dsimp only[cV,F0]at h;split at h<;>cases h
 rename_i l x;refine cb B3 Tryz.func329 ?_
 intro O r F hO hr hF;cbv
 repeat' first|apply Zd|(apply cP<;>intro hb<;>cbv)
 all_goals(subst hO hr hF;(try simp only[nc]at*);(try simp only[aj,SS,sa,az]at*))
 all_goals first
  | (show(_:List DV)=_
     first
      |exact av (show cW .geq (idxI l x) 0=decide (0<=idxI l x)from rfl)
      |done)
  |exact hp
  |trace_state
abbrev B4:dp:=d4 (fun F f=>match f with|33=>ay F|169=>ff F|329=>cV F|_=>fun _=>none) (by
 intro f;dsimp only;split;exact aS;exact lC;exact gd;exact dB)
def gH:EC:=fun F=>fun
 |[.agg hl_,.one (.v (.int Za ix))]=>hL hl_ fun a0 a1 a2 a3 a4 a5 a6 a7 a8 a9 aA aB aC aD aE aF aG aH aI aJ aK aL aM aN=>(fun _=>Rw [tI,tI] a2/\Rw [tI,tI,tI] a6/\a2.length<=1099511627776/\a6.length<=1099511627776,[.j (F.ubB a2 a6 ix)])
 |_=>none
theorem nI:ec 256 gH:=by
 intro _ _ _ h hp;dsimp only[gH,F0,hL]at h;split at h;rotate_left;cases h;split at h<;>cases h
 rename_i ix _ a0 a1 a2 a3 a4 a5 a6 a7 a8 a9 aA aB aC aD aE aF aG aH aI aJ aK aL aM aN;obtain⟨he,hw,hm,hn⟩:=hp;refine cb B4 Tryz.func256 ?_
 intro O r F hO hr hF;cbv
 repeat' first|apply Zd|(apply cP<;>intro hb<;>cbv)|(refine⟨[5,6,31,32,33],[6],Int×Int,fun s_=>match s_ with|(i,b)=>[.reg 33 (.j i),.reg 5 (.j b)],fun s_=>match s_ with|(i,b)=>0<=i/\i<=(a6.length:Int)/\b=GF a6 (fpg a2 (ag a6 ix 0)) (ag a6 ix 2) i.toNat,fun s_=>match s_ with|(i,b)=>a6.length-i.toNat,⟨(0,O.gi a6 ix 2),?_,?_⟩,?_⟩;rotate_left;(focus (cbv;done));intro s_ hi;obtain⟨i,b⟩:=s_;replace hi:0<=i/\i<=(a6.length:Int)/\b=GF a6 (fpg a2 (ag a6 ix 0)) (ag a6 ix 2) i.toNat:=hi;obtain⟨i0,i1,i2⟩:=hi;cbv)|(refine ah (O.ar .add Za i 1,b) ?_ ?_ ?_;focus (cbv;done))|(refine ah (O.ar .add Za i 1,O.ar .or Za b (O.gi a6 i 2)) ?_ ?_ ?_;focus (cbv;done))
 all_goals(subst hO hr hF;(try simp only[nc]at*);(try simp only[aj,SS,sa,az]at*))
 all_goals(have hsb:bO .sub Za (a6.length:Int) 1=a6.length-1:=gg (by omega);(try simp only[hsb]at*);(try(have hz:=be.1 (‹inR ix 0 ((a6.length:Int)-1)=true›))))
 all_goals(have hfp:=PQ (es:=a2) (p:=ag a6 ix 0) hm;(try rw[dx (by omega) (by omega)]))
 all_goals first
  | (show(_:List DV)=_
     first
      |exact cB (ac2 (by assumption)).symm
      |exact cB ((i2.trans (by rw[show i.toNat=a6.length by omega])).trans (RY (by assumption)).symm)
      |done)
  | (show(_:Int)=_
     first
      |(rw[Mw i0 (by assumption), <-i2])
      |(rw[RX i0 (by assumption), <-i2])
      |exact(rfl:ag a6 ix 2=GF a6 (fpg a2 (ag a6 ix 0)) (ag a6 ix 2) 0)
      |done)
  |omega
  |(show ax _ _=true;kernel_rfl)
  |exact fK
  |exact⟨he,hm⟩
  |exact⟨hfp.1,hfp.2⟩
  |exact⟨Zb,Zb⟩
  |exact Zb
  |trace_state
abbrev C1:dp:=d4 (fun F f=>match f with|33=>ay F|_=>fun _=>none) (by
 intro f;dsimp only;split;exact aS;exact dB)
def gA:EC:=fun F=>fun
 |[.one (.v (.int Za b)),.one (.v (.int Za i))]=>some (fun _=>True,[.k (F.slB b i)])
 |_=>none
theorem lQ:ec 331 gA:=by
 intro _ _ _ h hp;dsimp only[gA,F0]at h;split at h<;>cases h
 rename_i b i;refine cb C1 Tryz.func331 ?_
 intro O r F hO hr hF;cbv
 repeat' first|apply Zd|(apply cP<;>intro hb<;>cbv)
 all_goals(subst hO hr hF;(try simp only[nc]at*);(try simp only[aj,SS,sa,az]at*))
 all_goals first
  | (show(_:List DV)=_
     first
      |exact av (by unfold slB;rw[VP (by assumption)];rfl)
      |exact av (by unfold slB;rw[VQ (by omega)];rfl)
      |done)
  |trace_state
abbrev C2:dp:=d4 (fun F f=>match f with|331=>gA F|_=>fun _=>none) (by
 intro f;dsimp only;split;exact lQ;exact dB)
def dF:EC:=fun F=>fun
 |[.one (.v (.int Za b)),.one (.v (.int Za i))]=>some (fun _=>True,[.k (F.hsB b i)])
 |_=>none
theorem fm:ec 273 dF:=by
 intro _ _ _ h hp;dsimp only[dF,F0]at h;split at h<;>cases h
 rename_i b i;refine cb C2 Tryz.func273 ?_
 intro O r F hO hr hF;cbv
 repeat' first|apply Zd|(apply cP<;>intro hb<;>cbv)
 all_goals(subst hO hr hF;(try simp only[nc]at*);(try simp only[aj,SS,sa,az]at*);(try(have hs:=BQ.1 (‹slB b i=true›);have hw:=xp hs.2.1 hs.2.2;simp only[hw]at*)))
 all_goals first
  | (show(_:List DV)=_
     first
      |exact av (Ib (by assumption)).symm
      |(refine av (lB ?_);unfold hsB;rw[show slB b i=true from by assumption,Bool.true_and,VR];simp only[SS])
      |done)
  |omega
  |trace_state
end Go.V