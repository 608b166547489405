/- Contracts. -/
import Derived.Test.YtpldpilhgjpkjaaGreatFnv
set_option linter.all false
open Go
open And renaming intro->Zb
open IntKind renaming i64->Za
open True renaming intro->Zd
namespace Go.V
open Go Go.Proofs
set_option maxRecDepth 1000000
set_option maxHeartbeats 8000000
def ai:EC:=fun F=>fun
 |[.one (.v (.int Za x)),.one (.v (.int Za a)),.one (.v (.int Za b))]=>some (fun _=>True,[.k (F.inR x a b)])
 |_=>none
theorem aP:ec 33 ai:=by
 intro _ _ _ h hp;dsimp only[ai,F0]at h;split at h<;>cases h
 rename_i x a b;refine cb nB Tryz.func33 ?_
 intro O r F hO hr hF;cbv
 repeat' first|apply Zb|(apply b8<;>intro hb<;>cbv)
 all_goals(subst hO hr hF;(try simp only[nc]at*);(try simp only[am,SS,sa,az]at*))
 all_goals refine aj ?_
 ·exact fU (by rw[bz];simp only[SS];omega)
 ·exact(vK.2 (by omega)).symm
theorem bc:ec 92 ai:=by
 intro _ _ _ h hp;dsimp only[ai,F0]at h;split at h<;>cases h
 rename_i x a b;refine cb nB Tryz.func92 ?_
 intro O r F hO hr hF;cbv
 repeat' first|apply Zb|(apply b8<;>intro hb<;>cbv)
 all_goals(subst hO hr hF;(try simp only[nc]at*);(try simp only[am,SS,sa,az]at*))
 all_goals refine aj ?_
 ·exact fU (by rw[bz];simp only[SS];omega)
 ·exact(vK.2 (by omega)).symm
abbrev F4:dB:=eg (fun F f=>match f with|33=>ai F|92=>ai F|_=>fun _=>none) (by
 intro f;dsimp only;split;exact aP;exact bc;exact dI)
def dr:EC:=fun F=>fun
 |[.one (.v (.int Za k))]=>some (fun _=>True,[.k (F.inR k 0 3)])
 |_=>none
theorem eG:ec 157 dr:=by
 intro _ _ _ h hp;dsimp only[dr,F0]at h;split at h<;>cases h
 rename_i k;refine cb F4 Tryz.func157 ?_
 intro O r F hO hr hF;cbv
 repeat' first|apply Zb|(apply b8<;>intro hb<;>cbv)
 all_goals(subst hO hr hF;(try simp only[nc]at*);(try simp only[am,SS,sa,az]at*))
 all_goals first|trivial|trace_state
abbrev F5:dB:=eg (fun F f=>match f with|157=>dr F|92=>ai F|_=>fun _=>none) (by
 intro f;dsimp only;split;exact eG;exact bc;exact dI)
def bC:EC:=fun F=>fun
 |[.one (.v (.int Za k))]=>some (fun _=>True,[.j (F.clsSz k)])
 |_=>none
theorem de:ec 56 bC:=by
 intro _ _ _ h hp;dsimp only[bC,F0]at h;split at h<;>cases h
 rename_i k;refine cb F5 Tryz.func56 ?_
 intro O r F hO hr hF;cbv
 repeat' first|apply Zb|(apply b8<;>intro hb<;>cbv)
 all_goals(subst hO hr hF;(try simp only[nc]at*);(try simp only[am,SS,sa,az]at*))
 all_goals exact aca
theorem dO:ec 43 bC:=by
 intro _ _ _ h hp;dsimp only[bC,F0]at h;split at h<;>cases h
 rename_i k;refine cb F5 Tryz.func43 ?_
 intro O r F hO hr hF;cbv
 repeat' first|apply Zb|(apply b8<;>intro hb<;>cbv)
 all_goals(subst hO hr hF;(try simp only[nc]at*);(try simp only[am,SS,sa,az]at*);(try rw[L1 (by assumption)]at*))
 all_goals exact aca
abbrev F6:dB:=eg (fun F f=>match f with|33=>ai F|92=>ai F|56=>bC F|_=>fun _=>none) (by
 intro f;dsimp only;split;exact aP;exact bc;exact de;exact dI)
def cM:EC:=fun F=>fun
 |[.one (.v (.int Za s))]=>some (fun _=>True,[.j (F.clsOf s)])
 |_=>none
theorem jD:ec 38 cM:=by
 intro _ _ _ h hp;dsimp only[cM,F0]at h;split at h<;>cases h
 rename_i s;refine cb F6 Tryz.func38 ?_
 intro O r F hO hr hF;cbv
 repeat' first|apply Zb|(apply b8<;>intro hb<;>cbv)|(refine⟨[0,3],[],Int,fun k=>[.reg 3 (.j k)],fun k=>0<=k/\k<=3/\(k=0\/clsSz (k-1)<s),fun k=>(3-k).toNat,⟨0,?_,?_⟩,?_⟩;rotate_left;(focus (cbv;done));intro k hk;replace hk:0<=k/\k<=3/\(k=0\/clsSz (k-1)<s):=hk;obtain⟨k0,k1,k2⟩:=hk;cbv)|(refine ah (O.ar .add Za k 1) ?_ ?_ ?_;focus (cbv;done))
 all_goals(subst hO hr hF;(try simp only[nc]at*);(try simp only[am,SS,sa,az]at*))
 all_goals exact abZ
theorem jG:ec 42 cM:=by
 intro _ _ _ h hp;dsimp only[cM,F0]at h;split at h<;>cases h
 rename_i s;refine cb F6 Tryz.func42 ?_
 intro O r F hO hr hF;cbv
 repeat' first|apply Zb|(apply b8<;>intro hb<;>cbv)|(refine⟨[0,3],[],Int,fun k=>[.reg 3 (.j k)],fun k=>0<=k/\k<=3/\(k=0\/clsSz (k-1)<s),fun k=>(3-k).toNat,⟨0,?_,?_⟩,?_⟩;rotate_left;(focus (cbv;done));intro k hk;replace hk:0<=k/\k<=3/\(k=0\/clsSz (k-1)<s):=hk;obtain⟨k0,k1,k2⟩:=hk;cbv)|(refine ah (O.ar .add Za k 1) ?_ ?_ ?_;focus (cbv;done))
 all_goals(subst hO hr hF;(try simp only[nc]at*);(try simp only[am,SS,sa,az]at*);(try rw[L1 (k:=k) (by rw[bz];omega)]at*);(try rw[LZ (k:=k) (by rw[bz];omega)]at*))
 all_goals exact abZ
def iC:EC:=fun F=>fun
 |[.agg hl_]=>hL hl_ fun a0 a1 a2 a3 a4 a5 a6 a7 a8 a9 aA aB aC aD aE aF aG aH aI aJ aK aL aM aN=>(fun _=>Rw [tI,tI,tI,tI] a8/\a8.length<=1099511627776,[.j (F.lsI a8)])
 |_=>none
theorem rl:ec 37 iC:=by
 intro _ _ _ h hp;dsimp only[iC,F0,hL]at h;split at h;rotate_left;cases h;split at h<;>cases h
 rename_i a0 a1 a2 a3 a4 a5 a6 a7 a8 a9 aA aB aC aD aE aF aG aH aI aJ aK aL aM aN;obtain⟨hw,hn⟩:=hp;refine cb nB Tryz.func37 ?_
 intro O r F hO hr hF;cbv
 repeat' first|apply Zb|(apply b8<;>intro hb<;>cbv)|(refine⟨[3,7,8,9],[],Int×Int,fun s_=>match s_ with|(i,n)=>[.reg 9 (.j i),.reg 3 (.j n)],fun s_=>match s_ with|(i,n)=>0<=i/\i<=(a8.length:Int)/\n=Bp (szF a8) i.toNat,fun s_=>match s_ with|(i,n)=>a8.length-i.toNat,⟨(0,0),?_,?_⟩,?_⟩;rotate_left;(focus (cbv;done));intro s_ hi;obtain⟨i,n⟩:=s_;replace hi:0<=i/\i<=(a8.length:Int)/\n=Bp (szF a8) i.toNat:=hi;obtain⟨i0,i1,i2⟩:=hi;cbv)|(refine ah (O.ar .add Za i 1,O.ar .add Za n (O.gi a8 i 2)) ?_ ?_ ?_;focus (cbv;done))
 all_goals(subst hO hr hF;(try simp only[nc]at*);(try simp only[am,SS,sa,az]at*);(try rw[cJ (by omega) (by omega)]))
 all_goals first
  | (show(_:List DV)=_
     first
      |exact bV (by rw[i2,show i.toNat=a8.length by omega];rfl)
      |done)
  | (show(_:Int)=_
     first
      |(rw[Lm i0, <-i2];rfl)
      |exact(rfl:(0:Int)=Bp (szF a8) 0)
      |done)
  |omega
  |exact fg
  |trivial
  |exact⟨trivial,trivial⟩
  |trace_state
abbrev W1:dB:=eg (fun F f=>match f with|38=>cM F|56=>bC F|42=>cM F|43=>bC F|_=>fun _=>none) (by
 intro f;dsimp only;split;exact jD;exact de;exact jG;exact dO;exact dI)
def ju:EC:=fun F=>fun
 |[.one (.v (.int Za s))]=>some (fun _=>True,[.j (F.waI s)])
 |_=>none
theorem qb:ec 12 ju:=by
 intro _ _ _ h hp;dsimp only[ju,F0]at h;split at h<;>cases h
 rename_i s;refine cb W1 Tryz.func12 ?_
 intro O r F hO hr hF;cbv
 repeat' first|apply Zb|(apply b8<;>intro hb<;>cbv)
 all_goals(subst hO hr hF;(try simp only[nc]at*);(try simp only[am,SS,sa,az]at*))
 all_goals first
  | (show(_:List DV)=_
     first
      |exact bV (abl (by omega)).symm
      |exact bV (Qh (by omega)).symm
      |done)
  |trivial
  |trace_state
abbrev W2:dB:=eg (fun F f=>match f with|12=>ju F|_=>fun _=>none) (by
 intro f;dsimp only;split;exact qb;exact dI)
def jO:EC:=fun F=>fun
 |[.agg [.v (.int Za d0),.v (.int Za d1),.v (.int Za d2),.v (.int Za d3)],.ptr [.v (.int Za ad)]]=>some (fun _=>True,[.k (F.eqB d1 ad)])
 |_=>none
theorem uG:ec 152 jO:=by
 intro _ _ _ h hp;dsimp only[jO,F0]at h;split at h<;>cases h
 rename_i d0 d1 d2 d3 ad;refine cb nB Tryz.func152 ?_
 intro O r F hO hr hF;cbv
 repeat' first|apply Zb|(apply b8<;>intro hb<;>cbv)
 all_goals(subst hO hr hF;(try simp only[nc]at*);(try simp only[am,SS,sa,az]at*))
 all_goals first
  | (show(_:List DV)=_
     first
      |exact aj (sK (by assumption)).symm
      |exact aj (sJ (by assumption)).symm
      |exact aj (fU (by unfold eqB;simp only[SS,VM]))
      |done)
  |trivial
  |trace_state
def ji:EC:=fun F=>fun
 |[.agg [.v (.int Za d0),.v (.int Za d1),.v (.int Za d2)],.ptr [.v (.int Za pg)]]=>some (fun _=>True,[.k (F.eqB d0 pg)])
 |_=>none
theorem tw:ec 180 ji:=by
 intro _ _ _ h hp;dsimp only[ji,F0]at h;split at h<;>cases h
 rename_i d0 d1 d2 pg;refine cb nB Tryz.func180 ?_
 intro O r F hO hr hF;cbv
 repeat' first|apply Zb|(apply b8<;>intro hb<;>cbv)
 all_goals(subst hO hr hF;(try simp only[nc]at*);(try simp only[am,SS,sa,az]at*))
 all_goals first
  | (show(_:List DV)=_
     first
      |exact aj (fU (by unfold eqB;simp only[SS,VM]))
      |done)
  |trace_state
abbrev W3:dB:=eg (fun F f=>match f with|152=>jO F|180=>ji F|_=>fun _=>none) (by
 intro f;dsimp only;split;exact uG;exact tw;exact dI)
def bg:EC:=fun F=>fun
 |[.one (.s 4 os),.fn 152 [[.v (.int Za id)]]]=>some (fun _=>Rw [tI,tI,tI,tI] os/\os.length<=1099511627776,[.j (F.obI os id)])
 |_=>none
theorem cC:ec 151 bg:=by
 intro _ _ _ h hp;dsimp only[bg,F0]at h;split at h<;>cases h
 rename_i os id;obtain⟨hw,hn⟩:=hp;refine cb W3 Tryz.func151 ?_
 intro O r F hO hr hF;cbv
 repeat' first|apply Zb|(apply b8<;>intro hb<;>cbv)|(refine⟨[0,1,7,8],[0],Int,fun i=>[.reg 8 (.j i)],fun i=>0<=i/\i<=((os.length:Nat):Int)/\upto (bR (CB os id)) i,fun i=>(os.length)-i.toNat,⟨0,?_,?_⟩,?_⟩;rotate_left;(focus (cbv;done));intro i hi;replace hi:0<=i/\i<=((os.length:Nat):Int)/\upto (bR (CB os id)) i:=hi;obtain⟨i0,i1,i2⟩:=hi;cbv)|(refine ah (O.ar .add Za i 1) ?_ ?_ ?_;focus (cbv;done))
 all_goals(subst hO hr hF;(try simp only[nc]at*);(try simp only[am,SS,sa,az]at*);(try rw[cJ (by omega) (by omega)]))
 all_goals first
  | (show(_:List DV)=_
     first
      |exact bV (dE i2 i0 (by assumption) (show CB os id i=true from by assumption)).symm
      |exact bV (dE i2 i0 (by assumption) (show CB os id i=true from sK (by assumption))).symm
      |exact bV (dF i2 (by assumption)).symm
      |done)
  |omega
  |exact fg
  |(show(lk _ _).isSome=true;kernel_rfl)
  |exact bD
  |exact aU i2 (fX (show CB os id i=false from by assumption))
  |exact aU i2 (fX (show CB os id i=false from sJ (by assumption)))
  |exact⟨trivial,trivial⟩
  |trivial
  |trace_state
def ba:EC:=fun F=>fun
 |[.one (.s 3 os),.fn 180 [[.v (.int Za id)]]]=>some (fun _=>Rw [tI,tI,tI] os/\os.length<=1099511627776,[.j (F.spI os id)])
 |_=>none
theorem cr:ec 179 ba:=by
 intro _ _ _ h hp;dsimp only[ba,F0]at h;split at h<;>cases h
 rename_i os id;obtain⟨hw,hn⟩:=hp;refine cb W3 Tryz.func179 ?_
 intro O r F hO hr hF;cbv
 repeat' first|apply Zb|(apply b8<;>intro hb<;>cbv)|(refine⟨[0,1,7,8],[0],Int,fun i=>[.reg 8 (.j i)],fun i=>0<=i/\i<=((os.length:Nat):Int)/\upto (bR (isSp os id)) i,fun i=>(os.length)-i.toNat,⟨0,?_,?_⟩,?_⟩;rotate_left;(focus (cbv;done));intro i hi;replace hi:0<=i/\i<=((os.length:Nat):Int)/\upto (bR (isSp os id)) i:=hi;obtain⟨i0,i1,i2⟩:=hi;cbv)|(refine ah (O.ar .add Za i 1) ?_ ?_ ?_;focus (cbv;done))
 all_goals(subst hO hr hF;(try simp only[nc]at*);(try simp only[am,SS,sa,az]at*);(try rw[cJ (by omega) (by omega)]))
 all_goals first
  | (show(_:List DV)=_
     first
      |exact bV (dE i2 i0 (by assumption) (show isSp os id i=true from by assumption)).symm
      |exact bV (dF i2 (by assumption)).symm
      |done)
  |omega
  |exact fg
  |(show(lk _ _).isSome=true;kernel_rfl)
  |exact bD
  |exact aU i2 (fX (show isSp os id i=false from by assumption))
  |trace_state
abbrev W4:dB:=eg (fun F f=>match f with|151=>bg F|179=>ba F|_=>fun _=>none) (by
 intro f;dsimp only;split;exact cC;exact cr;exact dI)
def eA:EC:=fun F=>fun
 |[.agg hl_,.one (.v (.int Za pg))]=>hL hl_ fun a0 a1 a2 a3 a4 a5 a6 a7 a8 a9 aA aB aC aD aE aF aG aH aI aJ aK aL aM aN=>(fun _=>Rw [tI,tI,tI] a6/\a6.length<=1099511627776,[.j (F.spI a6 pg)])
 |_=>none
theorem xf:ec 71 eA:=by
 intro _ _ _ h hp;dsimp only[eA,F0,hL]at h;split at h;rotate_left;cases h;split at h<;>cases h
 rename_i pg _ a0 a1 a2 a3 a4 a5 a6 a7 a8 a9 aA aB aC aD aE aF aG aH aI aJ aK aL aM aN;refine cb W4 Tryz.func71 ?_
 intro O r F hO hr hF;cbv
 repeat' first|apply Zb|(apply b8<;>intro hb<;>cbv)
 all_goals(subst hO hr hF;(try simp only[nc]at*);(try simp only[am,SS,sa,az]at*))
 all_goals first|exact hp|exact rfl|trace_state
theorem pd:ec 213 eA:=by
 intro _ _ _ h hp;dsimp only[eA,F0,hL]at h;split at h;rotate_left;cases h;split at h<;>cases h
 rename_i pg _ a0 a1 a2 a3 a4 a5 a6 a7 a8 a9 aA aB aC aD aE aF aG aH aI aJ aK aL aM aN;obtain⟨hw,hn⟩:=hp;refine cb nB Tryz.func213 ?_
 intro O r F hO hr hF;cbv
 repeat' first|apply Zb|(apply b8<;>intro hb<;>cbv)|(refine⟨[1,2,5],[2],Int,fun i=>[.reg 5 (.j i)],fun i=>0<=i/\i<=((a6.length:Nat):Int)/\upto (bR (isSp a6 pg)) i,fun i=>(a6.length)-i.toNat,⟨0,?_,?_⟩,?_⟩;rotate_left;(focus (cbv;done));intro i hi;replace hi:0<=i/\i<=((a6.length:Nat):Int)/\upto (bR (isSp a6 pg)) i:=hi;obtain⟨i0,i1,i2⟩:=hi;cbv)|(refine ah (O.ar .add Za i 1) ?_ ?_ ?_;focus (cbv;done))
 all_goals(subst hO hr hF;(try simp only[nc]at*);(try simp only[am,SS,sa,az]at*);(try rw[cJ (by omega) (by omega)]))
 all_goals first
  | (show(_:List DV)=_
     first
      |exact bV (dE i2 i0 (by assumption) (show isSp a6 pg i=true from sK (by assumption))).symm
      |exact bV (dF i2 (by assumption)).symm
      |done)
  |omega
  |exact fg
  |exact bD
  |exact aU i2 (fX (show isSp a6 pg i=false from sJ (by assumption)))
  |trace_state
def cN:EC:=fun F=>fun
 |[.agg [.s 2 es],.one (.v (.int Za f))]=>some (fun _=>Rw [tI,tI] es/\es.length<=1099511627776,[.one (.s 1 (F.pagesOn es f))])
 |_=>none
theorem jE:ec 277 cN:=by
 intro _ _ _ h hp;dsimp only[cN,F0]at h;split at h<;>cases h
 rename_i es f;obtain⟨hw,hlen⟩:=hp;refine cb nB Tryz.func277 ?_
 intro O r F hO hr hF;cbv
 repeat' first|apply Zb|(apply b8<;>intro hb<;>cbv)|(refine⟨[1,5,10,11,12],[5],Int×af,fun s_=>match s_ with|(i,out)=>[.reg 12 (.j i),.reg 5 (.one (.vw 5 0 0 0 (O.ln out))),.leaf 5 0 ⟨0,0,none,.own (.s 1 out)⟩],fun s_=>match s_ with|(i,out)=>0<=i/\i<=(es.length:Int)/\out=s8 es f i.toNat,fun s_=>match s_ with|(i,out)=>es.length-i.toNat,⟨(0,[]),?_,?_⟩,?_⟩;rotate_left;(focus (cbv;done));intro s_ hi;obtain⟨i,out⟩:=s_;replace hi:0<=i/\i<=(es.length:Int)/\out=s8 es f i.toNat:=hi;obtain⟨i0,i1,i2⟩:=hi;cbv)|(refine ah (O.ar .add Za i 1,O.cat out (O.sub [[.i i]] 0 (O.ln [[.i i]]))) ?_ ?_ ?_;focus (cbv;done))|(refine ah (O.ar .add Za i 1,out) ?_ ?_ ?_;focus (cbv;done))
 all_goals exact zq8
theorem jJ:ec 355 cN:=by
 intro _ _ _ h hp;dsimp only[cN,F0]at h;split at h<;>cases h
 rename_i es f;obtain⟨hw,hlen⟩:=hp;refine cb nB Tryz.func355 ?_
 intro O r F hO hr hF;cbv
 repeat' first|apply Zb|(apply b8<;>intro hb<;>cbv)|(refine⟨[1,2,5,6],[2,5],Int×af,fun s_=>match s_ with|(i,out)=>[.reg 6 (.j i),.reg 5 (.one (.vw 5 0 0 0 (O.ln out))),.leaf 5 0 ⟨0,0,none,.own (.s 1 out)⟩],fun s_=>match s_ with|(i,out)=>0<=i/\i<=(es.length:Int)/\out=s8 es f i.toNat,fun s_=>match s_ with|(i,out)=>es.length-i.toNat,⟨(0,[]),?_,?_⟩,?_⟩;rotate_left;(focus (cbv;done));intro s_ hi;obtain⟨i,out⟩:=s_;replace hi:0<=i/\i<=(es.length:Int)/\out=s8 es f i.toNat:=hi;obtain⟨i0,i1,i2⟩:=hi;cbv)|(refine ah (O.ar .add Za i 1,O.cat out (O.sub [[.i i]] 0 (O.ln [[.i i]]))) ?_ ?_ ?_;focus (cbv;done))|(refine ah (O.ar .add Za i 1,out) ?_ ?_ ?_;focus (cbv;done))
 all_goals exact zq8
abbrev B1:dB:=eg (fun F f=>match f with|33=>ai F|92=>ai F|_=>fun _=>none) (by
 intro f;dsimp only;split;exact aP;exact bc;exact dI)
def bU:EC:=fun F=>fun
 |[.agg [.s 2 es],.one (.v (.int Za p))]=>some (fun _=>Rw [tI,tI] es,[.agg [.i (F.peM es p),.i (F.peF es p)]])
 |_=>none
theorem fI:ec 54 bU:=by
 intro _ _ _ h hp;dsimp only[bU,F0]at h;split at h<;>cases h
 rename_i es p;have hm:=hp.1;unfold maxLen at hm;have hsb:bK .sub Za (es.length:Int) 1=es.length-1:=fG (by omega);refine cb B1 Tryz.func54 ?_
 exact abT
theorem ip:ec 359 bU:=by
 intro _ _ _ h hp;dsimp only[bU,F0]at h;split at h<;>cases h
 rename_i es p;have hm:=hp.1;unfold maxLen at hm;have hsb:bK .sub Za (es.length:Int) 1=es.length-1:=fG (by omega);refine cb B1 Tryz.func359 ?_
 exact abT
abbrev B2:dB:=eg (fun F f=>match f with|54=>bU F|277=>cN F|359=>bU F|355=>cN F|_=>fun _=>none) (by
 intro f;dsimp only;split;exact fI;exact jE;exact ip;exact jJ;exact dI)
def cA:EC:=fun F=>fun
 |[.agg hl_,.one (.v (.int Za pg))]=>hL hl_ fun a0 a1 a2 a3 a4 a5 a6 a7 a8 a9 aA aB aC aD aE aF aG aH aI aJ aK aL aM aN=>(fun _=>Rw [tI,tI] a2/\a2.length<=1099511627776,[.one (.s 1 (F.fpg a2 pg))])
 |_=>none
theorem ky:ec 169 cA:=by
 intro _ _ _ h hp;dsimp only[cA,F0,hL]at h;split at h;rotate_left;cases h;split at h<;>cases h
 rename_i pg _ a0 a1 a2 a3 a4 a5 a6 a7 a8 a9 aA aB aC aD aE aF aG aH aI aJ aK aL aM aN;obtain⟨hw,hn⟩:=hp;refine cb B2 Tryz.func169 ?_
 exact ab0
theorem gI:ec 299 cA:=by
 intro _ _ _ h hp;dsimp only[cA,F0,hL]at h;split at h;rotate_left;cases h;split at h<;>cases h
 rename_i pg _ a0 a1 a2 a3 a4 a5 a6 a7 a8 a9 aA aB aC aD aE aF aG aH aI aJ aK aL aM aN;obtain⟨hw,hn⟩:=hp;refine cb B2 Tryz.func299 ?_
 exact ab0
def eR:EC:=fun F=>fun
 |[.one (.s 1 l),.one (.v (.int Za x))]=>some (fun _=>Rw [tI] l/\l.length<=1099511627776,[.j (F.idxI l x)])
 |_=>none
theorem lT:ec 380 eR:=by
 intro _ _ _ h hp;dsimp only[eR,F0]at h;split at h<;>cases h
 rename_i l x;obtain⟨hw,hn⟩:=hp;refine cb nB Tryz.func380 ?_
 intro O r F hO hr hF;cbv
 repeat' first|apply Zb|(apply b8<;>intro hb<;>cbv)|(refine⟨[0,1,7,8],[0],Int,fun i=>[.reg 8 (.j i)],fun i=>0<=i/\i<=((l.length:Nat):Int)/\upto (bR (Gc l x)) i,fun i=>(l.length)-i.toNat,⟨0,?_,?_⟩,?_⟩;rotate_left;(focus (cbv;done));intro i hi;replace hi:0<=i/\i<=((l.length:Nat):Int)/\upto (bR (Gc l x)) i:=hi;obtain⟨i0,i1,i2⟩:=hi;cbv)|(refine ah (O.ar .add Za i 1) ?_ ?_ ?_;focus (cbv;done))
 all_goals(subst hO hr hF;(try simp only[nc]at*);(try simp only[am,SS,sa,az]at*);(try rw[cJ (by omega) (by omega)]))
 all_goals first
  | (show(_:List DV)=_
     first
      |exact bV (dE i2 i0 (by assumption) (show Gc l x i=true from sK (by assumption))).symm
      |exact bV (dF i2 (by assumption)).symm
      |done)
  |omega
  |exact fg
  |exact bD
  |exact aU i2 (fX (show Gc l x i=false from sJ (by assumption)))
  |trace_state
abbrev B3:dB:=eg (fun F f=>match f with|380=>eR F|_=>fun _=>none) (by
 intro f;dsimp only;split;exact lT;exact dI)
def db:EC:=fun F=>fun
 |[.one (.s 1 l),.one (.v (.int Za x))]=>some (fun _=>Rw [tI] l/\l.length<=1099511627776,[.k (F.hasB l x)])
 |_=>none
theorem fV:ec 329 db:=by
 intro _ _ _ h hp;dsimp only[db,F0]at h;split at h<;>cases h
 rename_i l x;refine cb B3 Tryz.func329 ?_
 intro O r F hO hr hF;cbv
 repeat' first|apply Zb|(apply b8<;>intro hb<;>cbv)
 all_goals(subst hO hr hF;(try simp only[nc]at*);(try simp only[am,SS,sa,az]at*))
 all_goals first
  | (show(_:List DV)=_
     first
      |exact aj (show cU .geq (idxI l x) 0=decide (0<=idxI l x)from rfl)
      |done)
  |exact hp
  |trace_state
abbrev B4:dB:=eg (fun F f=>match f with|33=>ai F|169=>cA F|329=>db F|92=>ai F|299=>cA F|_=>fun _=>none) (by
 intro f;dsimp only;split;exact aP;exact ky;exact fV;exact bc;exact gI;exact dI)
def gn:EC:=fun F=>fun
 |[.agg hl_,.one (.v (.int Za ix))]=>hL hl_ fun a0 a1 a2 a3 a4 a5 a6 a7 a8 a9 aA aB aC aD aE aF aG aH aI aJ aK aL aM aN=>(fun _=>Rw [tI,tI] a2/\Rw [tI,tI,tI] a6/\a2.length<=1099511627776/\a6.length<=1099511627776,[.j (F.ubB a2 a6 ix)])
 |_=>none
theorem mG:ec 256 gn:=by
 intro _ _ _ h hp;dsimp only[gn,F0,hL]at h;split at h;rotate_left;cases h;split at h<;>cases h
 rename_i ix _ a0 a1 a2 a3 a4 a5 a6 a7 a8 a9 aA aB aC aD aE aF aG aH aI aJ aK aL aM aN;obtain⟨he,hw,hm,hn⟩:=hp;refine cb B4 Tryz.func256 ?_
 intro O r F hO hr hF;cbv
 repeat' first|apply Zb|(apply b8<;>intro hb<;>cbv)|(refine⟨[5,6,31,32,33],[6],Int×Int,fun s_=>match s_ with|(i,b)=>[.reg 33 (.j i),.reg 5 (.j b)],fun s_=>match s_ with|(i,b)=>0<=i/\i<=(a6.length:Int)/\b=FW a6 (fpg a2 (ag a6 ix 0)) (ag a6 ix 2) i.toNat,fun s_=>match s_ with|(i,b)=>a6.length-i.toNat,⟨(0,O.gi a6 ix 2),?_,?_⟩,?_⟩;rotate_left;(focus (cbv;done));intro s_ hi;obtain⟨i,b⟩:=s_;replace hi:0<=i/\i<=(a6.length:Int)/\b=FW a6 (fpg a2 (ag a6 ix 0)) (ag a6 ix 2) i.toNat:=hi;obtain⟨i0,i1,i2⟩:=hi;cbv)|(refine ah (O.ar .add Za i 1,b) ?_ ?_ ?_;focus (cbv;done))|(refine ah (O.ar .add Za i 1,O.ar .or Za b (O.gi a6 i 2)) ?_ ?_ ?_;focus (cbv;done))
 all_goals(subst hO hr hF;(try simp only[nc]at*);(try simp only[am,SS,sa,az]at*))
 all_goals(have hsb:bK .sub Za (a6.length:Int) 1=a6.length-1:=fG (by omega);(try simp only[hsb]at*);(try(have hz:=bz.1 (‹inR ix 0 ((a6.length:Int)-1)=true›))))
 all_goals(have hfp:=Hf (es:=a2) (p:=ag a6 ix 0) hm;(try rw[cJ (by omega) (by omega)]))
 all_goals first
  | (show(_:List DV)=_
     first
      |exact bV (abb (by assumption)).symm
      |exact bV ((i2.trans (by rw[show i.toNat=a6.length by omega])).trans (Qd (by assumption)).symm)
      |done)
  | (show(_:Int)=_
     first
      |(rw[Lq i0 (by assumption), <-i2])
      |(rw[Qc i0 (by assumption), <-i2])
      |exact(rfl:ag a6 ix 2=FW a6 (fpg a2 (ag a6 ix 0)) (ag a6 ix 2) 0)
      |done)
  |omega
  |(show aw _ _=true;kernel_rfl)
  |exact fg
  |exact⟨he,hm⟩
  |exact⟨hfp.1,hfp.2⟩
  |exact⟨Zd,Zd⟩
  |exact Zd
  |trace_state
abbrev C1:dB:=eg (fun F f=>match f with|33=>ai F|92=>ai F|_=>fun _=>none) (by
 intro f;dsimp only;split;exact aP;exact bc;exact dI)
def dL:EC:=fun F=>fun
 |[.one (.v (.int Za b)),.one (.v (.int Za i))]=>some (fun _=>True,[.k (F.slB b i)])
 |_=>none
theorem o9:ec 331 dL:=by
 intro _ _ _ h hp;dsimp only[dL,F0]at h;split at h<;>cases h
 rename_i b i;refine cb C1 Tryz.func331 ?_
 exact ab1
theorem pe:ec 396 dL:=by
 intro _ _ _ h hp;dsimp only[dL,F0]at h;split at h<;>cases h
 rename_i b i;refine cb C1 Tryz.func396 ?_
 exact ab1
abbrev C2:dB:=eg (fun F f=>match f with|331=>dL F|396=>dL F|_=>fun _=>none) (by
 intro f;dsimp only;split;exact o9;exact pe;exact dI)
def cF:EC:=fun F=>fun
 |[.one (.v (.int Za b)),.one (.v (.int Za i))]=>some (fun _=>True,[.k (F.hsB b i)])
 |_=>none
theorem gH:ec 273 cF:=by
 intro _ _ _ h hp;dsimp only[cF,F0]at h;split at h<;>cases h
 rename_i b i;refine cb C2 Tryz.func273 ?_
 exact abU
theorem jI:ec 361 cF:=by
 intro _ _ _ h hp;dsimp only[cF,F0]at h;split at h<;>cases h
 rename_i b i;refine cb C2 Tryz.func361 ?_
 exact abU
end Go.V