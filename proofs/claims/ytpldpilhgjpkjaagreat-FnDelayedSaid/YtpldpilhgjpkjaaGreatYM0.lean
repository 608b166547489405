/- Contracts. -/
import Derived.Test.YtpldpilhgjpkjaaGreatYFnv
set_option linter.all false
open Go
open And renaming intro->Zd
open IntKind renaming i64->Za
open True renaming intro->Zb
namespace Go.V
open Go Go.Proofs
set_option maxRecDepth 1000000
set_option maxHeartbeats 8000000
def ax:EC:=fun F=>fun
 |[.one (.v (.int Za x)),.one (.v (.int Za a)),.one (.v (.int Za b))]=>some (fun _=>True,[.k (F.inR x a b)])
 |_=>none
theorem aT:ec 33 ax:=by
 intro _ _ _ h hp;dsimp only[ax,F0]at h;split at h<;>cases h
 rename_i x a b;refine cb nB Tryz.func33 ?_
 intro O r F hO hr hF;cbv
 repeat' first|apply Zd|(apply cS<;>intro hb<;>cbv)
 all_goals(subst hO hr hF;(try simp only[nc]at*);(try simp only[am,SS,sa,az]at*))
 all_goals refine au ?_
 ·exact m8 (by rw[bi];simp only[SS];omega)
 ·exact(xQ.2 (by omega)).symm
abbrev F4:dr:=dW (fun F f=>match f with|33=>ax F|_=>fun _=>none) (by
 intro f;dsimp only;split;exact aT;exact dD)
def de:EC:=fun F=>fun
 |[.one (.v (.int Za k))]=>some (fun _=>True,[.k (F.inR k 0 3)])
 |_=>none
theorem d4:ec 157 de:=by
 intro _ _ _ h hp;dsimp only[de,F0]at h;split at h<;>cases h
 rename_i k;refine cb F4 Tryz.func157 ?_
 intro O r F hO hr hF;cbv
 repeat' first|apply Zd|(apply cS<;>intro hb<;>cbv)
 all_goals(subst hO hr hF;(try simp only[nc]at*);(try simp only[am,SS,sa,az]at*))
 all_goals first|trivial|trace_state
abbrev F5:dr:=dW (fun F f=>match f with|157=>de F|_=>fun _=>none) (by
 intro f;dsimp only;split;exact d4;exact dD)
def cn:EC:=fun F=>fun
 |[.one (.v (.int Za k))]=>some (fun _=>True,[.j (F.clsSz k)])
 |_=>none
theorem cR:ec 56 cn:=by
 intro _ _ _ h hp;dsimp only[cn,F0]at h;split at h<;>cases h
 rename_i k;refine cb F5 Tryz.func56 ?_
 intro O r F hO hr hF;cbv
 repeat' first|apply Zd|(apply cS<;>intro hb<;>cbv)
 all_goals(subst hO hr hF;(try simp only[nc]at*);(try simp only[am,SS,sa,az]at*))
 all_goals first|exact cB (R0 (by assumption)).symm|(refine cB ?_;rw[R1 (by assumption)])|(rw[bi]at*;omega)|trace_state
abbrev F6:dr:=dW (fun F f=>match f with|33=>ax F|56=>cn F|_=>fun _=>none) (by
 intro f;dsimp only;split;exact aT;exact cR;exact dD)
def d5:EC:=fun F=>fun
 |[.one (.v (.int Za s))]=>some (fun _=>True,[.j (F.clsOf s)])
 |_=>none
theorem gM:ec 38 d5:=by
 intro _ _ _ h hp;dsimp only[d5,F0]at h;split at h<;>cases h
 rename_i s;refine cb F6 Tryz.func38 ?_
 intro O r F hO hr hF;cbv
 repeat' first|apply Zd|(apply cS<;>intro hb<;>cbv)|(refine⟨[0,3],[],Int,fun k=>[.reg 3 (.j k)],fun k=>0<=k/\k<=3/\(k=0\/clsSz (k-1)<s),fun k=>(3-k).toNat,⟨0,?_,?_⟩,?_⟩;rotate_left;(focus (cbv;done));intro k hk;replace hk:0<=k/\k<=3/\(k=0\/clsSz (k-1)<s):=hk;obtain⟨k0,k1,k2⟩:=hk;cbv)|(refine ah (O.ar .add Za k 1) ?_ ?_ ?_;focus (cbv;done))
 all_goals(subst hO hr hF;(try simp only[nc]at*);(try simp only[am,SS,sa,az]at*);(try simp only[bi,xQ]at*);(try rw[dq (by omega) (by omega)]))
 all_goals first|trivial|omega|exact L2 (by omega) (by assumption) (by omega)|(have:=L2 (k:=k) (s:=s) (by omega) (by assumption) (by omega);omega)|exact cB (RX (by omega)).symm|exact cB (N7 (by omega) (by assumption) (by omega) (by assumption)).symm|exact .inl trivial|(rw[show k+1-1=k by omega];exact .inr (by assumption))|trace_state
def iF:EC:=fun F=>fun
 |[.agg hl_]=>hL hl_ fun a0 a1 a2 a3 a4 a5 a6 a7 a8 a9 aA aB aC aD aE aF aG aH aI aJ aK aL aM aN=>(fun _=>Rw [tI,tI,tI,tI] a8/\a8.length<=1099511627776,[.j (F.lsI a8)])
 |_=>none
theorem rC:ec 37 iF:=by
 intro _ _ _ h hp;dsimp only[iF,F0,hL]at h;split at h;rotate_left;cases h;split at h<;>cases h
 rename_i a0 a1 a2 a3 a4 a5 a6 a7 a8 a9 aA aB aC aD aE aF aG aH aI aJ aK aL aM aN;obtain⟨hw,hn⟩:=hp;refine cb nB Tryz.func37 ?_
 intro O r F hO hr hF;cbv
 repeat' first|apply Zd|(apply cS<;>intro hb<;>cbv)|(refine⟨[3,7,8,9],[],Int×Int,fun s_=>match s_ with|(i,n)=>[.reg 9 (.j i),.reg 3 (.j n)],fun s_=>match s_ with|(i,n)=>0<=i/\i<=(a8.length:Int)/\n=Bq (szF a8) i.toNat,fun s_=>match s_ with|(i,n)=>a8.length-i.toNat,⟨(0,0),?_,?_⟩,?_⟩;rotate_left;(focus (cbv;done));intro s_ hi;obtain⟨i,n⟩:=s_;replace hi:0<=i/\i<=(a8.length:Int)/\n=Bq (szF a8) i.toNat:=hi;obtain⟨i0,i1,i2⟩:=hi;cbv)|(refine ah (O.ar .add Za i 1,O.ar .add Za n (O.gi a8 i 2)) ?_ ?_ ?_;focus (cbv;done))
 all_goals(subst hO hr hF;(try simp only[nc]at*);(try simp only[am,SS,sa,az]at*);(try rw[dq (by omega) (by omega)]))
 all_goals first
  | (show(_:List DV)=_
     first
      |exact cB (by rw[i2,show i.toNat=a8.length by omega];rfl)
      |done)
  | (show(_:Int)=_
     first
      |(rw[Ly i0, <-i2];rfl)
      |exact(rfl:(0:Int)=Bq (szF a8) 0)
      |done)
  |omega
  |exact fQ
  |trivial
  |exact⟨trivial,trivial⟩
  |trace_state
abbrev W1:dr:=dW (fun F f=>match f with|38=>d5 F|56=>cn F|_=>fun _=>none) (by
 intro f;dsimp only;split;exact gM;exact cR;exact dD)
def kg:EC:=fun F=>fun
 |[.agg [.v (.int Za d0),.v (.int Za d1),.v (.int Za d2),.v (.int Za d3)],.ptr [.v (.int Za ad)]]=>some (fun _=>True,[.k (F.eqB d1 ad)])
 |_=>none
theorem uM:ec 152 kg:=by
 intro _ _ _ h hp;dsimp only[kg,F0]at h;split at h<;>cases h
 rename_i d0 d1 d2 d3 ad;refine cb nB Tryz.func152 ?_
 intro O r F hO hr hF;cbv
 repeat' first|apply Zd|(apply cS<;>intro hb<;>cbv)
 all_goals(subst hO hr hF;(try simp only[nc]at*);(try simp only[am,SS,sa,az]at*))
 all_goals first
  | (show(_:List DV)=_
     first
      |exact au (vm (by assumption)).symm
      |exact au (xH (by assumption)).symm
      |exact au (m8 (by unfold eqB;simp only[SS,VK]))
      |done)
  |trivial
  |trace_state
def jF:EC:=fun F=>fun
 |[.agg [.v (.int Za d0),.v (.int Za d1),.v (.int Za d2)],.ptr [.v (.int Za pg)]]=>some (fun _=>True,[.k (F.eqB d0 pg)])
 |_=>none
theorem tL:ec 180 jF:=by
 intro _ _ _ h hp;dsimp only[jF,F0]at h;split at h<;>cases h
 rename_i d0 d1 d2 pg;refine cb nB Tryz.func180 ?_
 intro O r F hO hr hF;cbv
 repeat' first|apply Zd|(apply cS<;>intro hb<;>cbv)
 all_goals(subst hO hr hF;(try simp only[nc]at*);(try simp only[am,SS,sa,az]at*))
 all_goals first
  | (show(_:List DV)=_
     first
      |exact au (m8 (by unfold eqB;simp only[SS,VK]))
      |done)
  |trace_state
abbrev W3:dr:=dW (fun F f=>match f with|152=>kg F|180=>jF F|_=>fun _=>none) (by
 intro f;dsimp only;split;exact uM;exact tL;exact dD)
def bu:EC:=fun F=>fun
 |[.one (.s 4 os),.fn 152 [[.v (.int Za id)]]]=>some (fun _=>Rw [tI,tI,tI,tI] os/\os.length<=1099511627776,[.j (F.obI os id)])
 |_=>none
theorem cD:ec 151 bu:=by
 intro _ _ _ h hp;dsimp only[bu,F0]at h;split at h<;>cases h
 rename_i os id;obtain⟨hw,hn⟩:=hp;refine cb W3 Tryz.func151 ?_
 intro O r F hO hr hF;cbv
 repeat' first|apply Zd|(apply cS<;>intro hb<;>cbv)|(refine⟨[0,1,7,8],[0],Int,fun i=>[.reg 8 (.j i)],fun i=>0<=i/\i<=((os.length:Nat):Int)/\upto (cK (AX os id)) i,fun i=>(os.length)-i.toNat,⟨0,?_,?_⟩,?_⟩;rotate_left;(focus (cbv;done));intro i hi;replace hi:0<=i/\i<=((os.length:Nat):Int)/\upto (cK (AX os id)) i:=hi;obtain⟨i0,i1,i2⟩:=hi;cbv)|(refine ah (O.ar .add Za i 1) ?_ ?_ ?_;focus (cbv;done))
 all_goals(subst hO hr hF;(try simp only[nc]at*);(try simp only[am,SS,sa,az]at*);(try rw[dq (by omega) (by omega)]))
 all_goals first
  | (show(_:List DV)=_
     first
      |exact cB (du i2 i0 (by assumption) (show AX os id i=true from by assumption)).symm
      |exact cB (du i2 i0 (by assumption) (show AX os id i=true from vm (by assumption))).symm
      |exact cB (d7 i2 (by assumption)).symm
      |done)
  |omega
  |exact fQ
  |(show(lk _ _).isSome=true;kernel_rfl)
  |exact bV
  |exact bN i2 (ft (show AX os id i=false from by assumption))
  |exact bN i2 (ft (show AX os id i=false from xH (by assumption)))
  |exact⟨trivial,trivial⟩
  |trivial
  |trace_state
def bg:EC:=fun F=>fun
 |[.one (.s 3 os),.fn 180 [[.v (.int Za id)]]]=>some (fun _=>Rw [tI,tI,tI] os/\os.length<=1099511627776,[.j (F.spI os id)])
 |_=>none
theorem cr:ec 179 bg:=by
 intro _ _ _ h hp;dsimp only[bg,F0]at h;split at h<;>cases h
 rename_i os id;obtain⟨hw,hn⟩:=hp;refine cb W3 Tryz.func179 ?_
 intro O r F hO hr hF;cbv
 repeat' first|apply Zd|(apply cS<;>intro hb<;>cbv)|(refine⟨[0,1,7,8],[0],Int,fun i=>[.reg 8 (.j i)],fun i=>0<=i/\i<=((os.length:Nat):Int)/\upto (cK (isSp os id)) i,fun i=>(os.length)-i.toNat,⟨0,?_,?_⟩,?_⟩;rotate_left;(focus (cbv;done));intro i hi;replace hi:0<=i/\i<=((os.length:Nat):Int)/\upto (cK (isSp os id)) i:=hi;obtain⟨i0,i1,i2⟩:=hi;cbv)|(refine ah (O.ar .add Za i 1) ?_ ?_ ?_;focus (cbv;done))
 all_goals(subst hO hr hF;(try simp only[nc]at*);(try simp only[am,SS,sa,az]at*);(try rw[dq (by omega) (by omega)]))
 all_goals first
  | (show(_:List DV)=_
     first
      |exact cB (du i2 i0 (by assumption) (show isSp os id i=true from by assumption)).symm
      |exact cB (d7 i2 (by assumption)).symm
      |done)
  |omega
  |exact fQ
  |(show(lk _ _).isSome=true;kernel_rfl)
  |exact bV
  |exact bN i2 (ft (show isSp os id i=false from by assumption))
  |trace_state
abbrev W4:dr:=dW (fun F f=>match f with|151=>bu F|179=>bg F|_=>fun _=>none) (by
 intro f;dsimp only;split;exact cD;exact cr;exact dD)
def mF:EC:=fun F=>fun
 |[.agg hl_,.one (.v (.int Za ad))]=>hL hl_ fun a0 a1 a2 a3 a4 a5 a6 a7 a8 a9 aA aB aC aD aE aF aG aH aI aJ aK aL aM aN=>(fun _=>Rw [tI,tI,tI,tI] a8/\a8.length<=1099511627776,[.j (F.obI a8 ad)])
 |_=>none
theorem yt:ec 47 mF:=by
 intro _ _ _ h hp;dsimp only[mF,F0,hL]at h;split at h;rotate_left;cases h;split at h<;>cases h
 rename_i ad _ a0 a1 a2 a3 a4 a5 a6 a7 a8 a9 aA aB aC aD aE aF aG aH aI aJ aK aL aM aN;refine cb W4 Tryz.func47 ?_
 intro O r F hO hr hF;cbv
 repeat' first|apply Zd|(apply cS<;>intro hb<;>cbv)
 all_goals(subst hO hr hF;(try simp only[nc]at*);(try simp only[am,SS,sa,az]at*))
 all_goals first|exact hp|exact rfl|trivial|trace_state
def lz:EC:=fun F=>fun
 |[.agg hl_,.one (.v (.int Za pg))]=>hL hl_ fun a0 a1 a2 a3 a4 a5 a6 a7 a8 a9 aA aB aC aD aE aF aG aH aI aJ aK aL aM aN=>(fun _=>Rw [tI,tI,tI] a6/\a6.length<=1099511627776,[.j (F.spI a6 pg)])
 |_=>none
theorem w5:ec 71 lz:=by
 intro _ _ _ h hp;dsimp only[lz,F0,hL]at h;split at h;rotate_left;cases h;split at h<;>cases h
 rename_i pg _ a0 a1 a2 a3 a4 a5 a6 a7 a8 a9 aA aB aC aD aE aF aG aH aI aJ aK aL aM aN;refine cb W4 Tryz.func71 ?_
 intro O r F hO hr hF;cbv
 repeat' first|apply Zd|(apply cS<;>intro hb<;>cbv)
 all_goals(subst hO hr hF;(try simp only[nc]at*);(try simp only[am,SS,sa,az]at*))
 all_goals first|exact hp|exact rfl|trace_state
def fj:EC:=fun F=>fun
 |[.agg [.s 2 es],.one (.v (.int Za f))]=>some (fun _=>Rw [tI,tI] es/\es.length<=1099511627776,[.one (.s 1 (F.pagesOn es f))])
 |_=>none
theorem j7:ec 277 fj:=by
 intro _ _ _ h hp;dsimp only[fj,F0]at h;split at h<;>cases h
 rename_i es f;obtain⟨hw,hlen⟩:=hp;refine cb nB Tryz.func277 ?_
 intro O r F hO hr hF;cbv
 repeat' first|apply Zd|(apply cS<;>intro hb<;>cbv)|(refine⟨[1,5,10,11,12],[5],Int×af,fun s_=>match s_ with|(i,out)=>[.reg 12 (.j i),.reg 5 (.one (.vw 5 0 0 0 (O.ln out))),.leaf 5 0 ⟨0,0,none,.own (.s 1 out)⟩],fun s_=>match s_ with|(i,out)=>0<=i/\i<=(es.length:Int)/\out=vS es f i.toNat,fun s_=>match s_ with|(i,out)=>es.length-i.toNat,⟨(0,[]),?_,?_⟩,?_⟩;rotate_left;(focus (cbv;done));intro s_ hi;obtain⟨i,out⟩:=s_;replace hi:0<=i/\i<=(es.length:Int)/\out=vS es f i.toNat:=hi;obtain⟨i0,i1,i2⟩:=hi;cbv)|(refine ah (O.ar .add Za i 1,O.cat out (O.sub [[.i i]] 0 (O.ln [[.i i]]))) ?_ ?_ ?_;focus (cbv;done))|(refine ah (O.ar .add Za i 1,out) ?_ ?_ ?_;focus (cbv;done))
 all_goals(subst hO hr hF;(try simp only[nc]at*);(try simp only[am,SS,sa,az]at*);(try rw[dq (by omega) (by omega)]);(try(have hpl:=y8 (es:=es) (f:=f) (n:=i.toNat);rw[<-i2]at hpl)))
 all_goals first|omega|exact fQ|(exact⟨trivial,trivial⟩)|rfl|(simp only[List.length_cons,List.length_nil];omega)|(rw[KY i0 (by assumption) (by assumption), <-i2])|(rw[Ii i0 (.inl (by assumption)), <-i2])|(rw[Ii i0 (.inr (by assumption)), <-i2])|exact Do (by rw[i2,show i.toNat=es.length from by omega];rfl)|trace_state
abbrev B1:dr:=dW (fun F f=>match f with|33=>ax F|_=>fun _=>none) (by
 intro f;dsimp only;split;exact aT;exact dD)
def cY:EC:=fun F=>fun
 |[.agg [.s 2 es],.one (.v (.int Za p))]=>some (fun _=>Rw [tI,tI] es,[.agg [.i (F.peM es p),.i (F.peF es p)]])
 |_=>none
theorem dY:ec 54 cY:=by
 intro _ _ _ h hp;dsimp only[cY,F0]at h;split at h<;>cases h
 rename_i es p;have hm:=hp.1;unfold maxLen at hm;have hsb:bO .sub Za (es.length:Int) 1=es.length-1:=f9 (by omega);refine cb B1 Tryz.func54 ?_
 intro O r F hO hr hF;cbv
 repeat' first|apply Zd|(apply cS<;>intro hb<;>cbv)
 all_goals(subst hO hr hF;(try simp only[nc]at*);(try simp only[am,SS,sa,az]at*);(try simp only[hsb]at*);(try simp only[bi,xQ]at*))
 all_goals first|exact LS (EI (by omega)).1.symm (EI (by omega)).2.symm|exact LS (Ih (by omega)).1.symm (Ih (by omega)).2.symm|exact fQ|trace_state
abbrev B2:dr:=dW (fun F f=>match f with|54=>cY F|277=>fj F|_=>fun _=>none) (by
 intro f;dsimp only;split;exact dY;exact j7;exact dD)
def eW:EC:=fun F=>fun
 |[.agg hl_,.one (.v (.int Za pg))]=>hL hl_ fun a0 a1 a2 a3 a4 a5 a6 a7 a8 a9 aA aB aC aD aE aF aG aH aI aJ aK aL aM aN=>(fun _=>Rw [tI,tI] a2/\a2.length<=1099511627776,[.one (.s 1 (F.fpg a2 pg))])
 |_=>none
theorem kT:ec 169 eW:=by
 intro _ _ _ h hp;dsimp only[eW,F0,hL]at h;split at h;rotate_left;cases h;split at h<;>cases h
 rename_i pg _ a0 a1 a2 a3 a4 a5 a6 a7 a8 a9 aA aB aC aD aE aF aG aH aI aJ aK aL aM aN;obtain⟨hw,hn⟩:=hp;refine cb B2 Tryz.func169 ?_
 intro O r F hO hr hF;cbv
 repeat' first|apply Zd|(apply cS<;>intro hb<;>cbv)
 all_goals(subst hO hr hF;(try simp only[nc]at*);(try simp only[am,SS,sa,az]at*))
 all_goals first
  | (show(_:List DV)=_
     first
      |exact Do (Oy (by assumption)).symm
      |exact Do (Ka (by assumption)).symm
      |done)
  |exact⟨hw,hn⟩
  |exact hw
  |exact⟨Zb,Zb⟩
  |trace_state
def eA:EC:=fun F=>fun
 |[.one (.s 1 l),.one (.v (.int Za x))]=>some (fun _=>Rw [tI] l/\l.length<=1099511627776,[.j (F.idxI l x)])
 |_=>none
theorem mC:ec 380 eA:=by
 intro _ _ _ h hp;dsimp only[eA,F0]at h;split at h<;>cases h
 rename_i l x;obtain⟨hw,hn⟩:=hp;refine cb nB Tryz.func380 ?_
 intro O r F hO hr hF;cbv
 repeat' first|apply Zd|(apply cS<;>intro hb<;>cbv)|(refine⟨[0,1,7,8],[0],Int,fun i=>[.reg 8 (.j i)],fun i=>0<=i/\i<=((l.length:Nat):Int)/\upto (cK (TR l x)) i,fun i=>(l.length)-i.toNat,⟨0,?_,?_⟩,?_⟩;rotate_left;(focus (cbv;done));intro i hi;replace hi:0<=i/\i<=((l.length:Nat):Int)/\upto (cK (TR l x)) i:=hi;obtain⟨i0,i1,i2⟩:=hi;cbv)|(refine ah (O.ar .add Za i 1) ?_ ?_ ?_;focus (cbv;done))
 all_goals(subst hO hr hF;(try simp only[nc]at*);(try simp only[am,SS,sa,az]at*);(try rw[dq (by omega) (by omega)]))
 all_goals first
  | (show(_:List DV)=_
     first
      |exact cB (du i2 i0 (by assumption) (show TR l x i=true from vm (by assumption))).symm
      |exact cB (d7 i2 (by assumption)).symm
      |done)
  |omega
  |exact fQ
  |exact bV
  |exact bN i2 (ft (show TR l x i=false from xH (by assumption)))
  |trace_state
abbrev B3:dr:=dW (fun F f=>match f with|380=>eA F|_=>fun _=>none) (by
 intro f;dsimp only;split;exact mC;exact dD)
def cV:EC:=fun F=>fun
 |[.one (.s 1 l),.one (.v (.int Za x))]=>some (fun _=>Rw [tI] l/\l.length<=1099511627776,[.k (F.hasB l x)])
 |_=>none
theorem fP:ec 329 cV:=by
 intro _ _ _ h hp;dsimp only[cV,F0]at h;split at h<;>cases h
 rename_i l x;refine cb B3 Tryz.func329 ?_
 intro O r F hO hr hF;cbv
 repeat' first|apply Zd|(apply cS<;>intro hb<;>cbv)
 all_goals(subst hO hr hF;(try simp only[nc]at*);(try simp only[am,SS,sa,az]at*))
 all_goals first
  | (show(_:List DV)=_
     first
      |exact au (show cT .geq (idxI l x) 0=decide (0<=idxI l x)from rfl)
      |done)
  |exact hp
  |trace_state
abbrev B4:dr:=dW (fun F f=>match f with|33=>ax F|169=>eW F|329=>cV F|_=>fun _=>none) (by
 intro f;dsimp only;split;exact aT;exact kT;exact fP;exact dD)
def gj:EC:=fun F=>fun
 |[.agg hl_,.one (.v (.int Za ix))]=>hL hl_ fun a0 a1 a2 a3 a4 a5 a6 a7 a8 a9 aA aB aC aD aE aF aG aH aI aJ aK aL aM aN=>(fun _=>Rw [tI,tI] a2/\Rw [tI,tI,tI] a6/\a2.length<=1099511627776/\a6.length<=1099511627776,[.j (F.ubB a2 a6 ix)])
 |_=>none
theorem ni:ec 256 gj:=by
 intro _ _ _ h hp;dsimp only[gj,F0,hL]at h;split at h;rotate_left;cases h;split at h<;>cases h
 rename_i ix _ a0 a1 a2 a3 a4 a5 a6 a7 a8 a9 aA aB aC aD aE aF aG aH aI aJ aK aL aM aN;obtain⟨he,hw,hm,hn⟩:=hp;refine cb B4 Tryz.func256 ?_
 intro O r F hO hr hF;cbv
 repeat' first|apply Zd|(apply cS<;>intro hb<;>cbv)|(refine⟨[5,6,31,32,33],[6],Int×Int,fun s_=>match s_ with|(i,b)=>[.reg 33 (.j i),.reg 5 (.j b)],fun s_=>match s_ with|(i,b)=>0<=i/\i<=(a6.length:Int)/\b=FR a6 (fpg a2 (ag a6 ix 0)) (ag a6 ix 2) i.toNat,fun s_=>match s_ with|(i,b)=>a6.length-i.toNat,⟨(0,O.gi a6 ix 2),?_,?_⟩,?_⟩;rotate_left;(focus (cbv;done));intro s_ hi;obtain⟨i,b⟩:=s_;replace hi:0<=i/\i<=(a6.length:Int)/\b=FR a6 (fpg a2 (ag a6 ix 0)) (ag a6 ix 2) i.toNat:=hi;obtain⟨i0,i1,i2⟩:=hi;cbv)|(refine ah (O.ar .add Za i 1,b) ?_ ?_ ?_;focus (cbv;done))|(refine ah (O.ar .add Za i 1,O.ar .or Za b (O.gi a6 i 2)) ?_ ?_ ?_;focus (cbv;done))
 all_goals(subst hO hr hF;(try simp only[nc]at*);(try simp only[am,SS,sa,az]at*))
 all_goals(have hsb:bO .sub Za (a6.length:Int) 1=a6.length-1:=f9 (by omega);(try simp only[hsb]at*);(try(have hz:=bi.1 (‹inR ix 0 ((a6.length:Int)-1)=true›))))
 all_goals(have hfp:=Oz (es:=a2) (p:=ag a6 ix 0) hm;(try rw[dq (by omega) (by omega)]))
 all_goals first
  | (show(_:List DV)=_
     first
      |exact cB (abL (by assumption)).symm
      |exact cB ((i2.trans (by rw[show i.toNat=a6.length by omega])).trans (QJ (by assumption)).symm)
      |done)
  | (show(_:Int)=_
     first
      |(rw[LE i0 (by assumption), <-i2])
      |(rw[QI i0 (by assumption), <-i2])
      |exact(rfl:ag a6 ix 2=FR a6 (fpg a2 (ag a6 ix 0)) (ag a6 ix 2) 0)
      |done)
  |omega
  |(show aw _ _=true;kernel_rfl)
  |exact fQ
  |exact⟨he,hm⟩
  |exact⟨hfp.1,hfp.2⟩
  |exact⟨Zb,Zb⟩
  |exact Zb
  |trace_state
abbrev C1:dr:=dW (fun F f=>match f with|33=>ax F|_=>fun _=>none) (by
 intro f;dsimp only;split;exact aT;exact dD)
def f8:EC:=fun F=>fun
 |[.one (.v (.int Za b)),.one (.v (.int Za i))]=>some (fun _=>True,[.k (F.slB b i)])
 |_=>none
theorem lp:ec 331 f8:=by
 intro _ _ _ h hp;dsimp only[f8,F0]at h;split at h<;>cases h
 rename_i b i;refine cb C1 Tryz.func331 ?_
 intro O r F hO hr hF;cbv
 repeat' first|apply Zd|(apply cS<;>intro hb<;>cbv)
 all_goals(subst hO hr hF;(try simp only[nc]at*);(try simp only[am,SS,sa,az]at*))
 all_goals first
  | (show(_:List DV)=_
     first
      |exact au (by unfold slB;rw[VI (by assumption)];rfl)
      |exact au (by unfold slB;rw[VJ (by omega)];rfl)
      |done)
  |trace_state
abbrev C2:dr:=dW (fun F f=>match f with|331=>f8 F|_=>fun _=>none) (by
 intro f;dsimp only;split;exact lp;exact dD)
def dE:EC:=fun F=>fun
 |[.one (.v (.int Za b)),.one (.v (.int Za i))]=>some (fun _=>True,[.k (F.hsB b i)])
 |_=>none
theorem fc:ec 273 dE:=by
 intro _ _ _ h hp;dsimp only[dE,F0]at h;split at h<;>cases h
 rename_i b i;refine cb C2 Tryz.func273 ?_
 intro O r F hO hr hF;cbv
 repeat' first|apply Zd|(apply cS<;>intro hb<;>cbv)
 all_goals(subst hO hr hF;(try simp only[nc]at*);(try simp only[am,SS,sa,az]at*);(try(have hs:=Bm.1 (‹slB b i=true›);have hw:=wO hs.2.1 hs.2.2;simp only[hw]at*)))
 all_goals first
  | (show(_:List DV)=_
     first
      |exact au (Hn (by assumption)).symm
      |(refine au (m8 ?_);unfold hsB;rw[show slB b i=true from by assumption,Bool.true_and,VK];simp only[SS])
      |done)
  |omega
  |trace_state
end Go.V