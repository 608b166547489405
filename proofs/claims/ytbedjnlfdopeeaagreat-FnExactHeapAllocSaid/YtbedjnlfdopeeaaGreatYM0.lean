/- Contracts. -/
import Derived.Test.YtbedjnlfdopeeaaGreatYFnu
set_option linter.all false
open Go
open And renaming intro->Zb
open IntKind renaming i64->Za
open True renaming intro->Zf
namespace Go.V
open Go Go.Proofs
set_option maxRecDepth 1000000
set_option maxHeartbeats 8000000
def aj:EC:=fun F=>fun
 |[.one (.v (.int Za x)),.one (.v (.int Za a)),.one (.v (.int Za b))]=>some (fun _=>True,[.k (F.inR x a b)])
 |_=>none
theorem bc:ec 41 aj:=by
 intro _ _ _ h hp;dsimp only[aj,F0]at h;split at h<;>cases h
 rename_i x a b;refine cb nB Tryz.func41 ?_
 intro O r F hO hr hF;cbv
 repeat' first|apply Zb|(apply bG<;>intro hb<;>cbv)
 all_goals(subst hO hr hF;(try simp only[nc]at*);(try simp only[ai,SS,sa,az]at*))
 all_goals refine ak ?_
 ·exact hE (by rw[bA];simp only[SS];omega)
 ·exact(Ar.2 (by omega)).symm
theorem bi:ec 28 aj:=by
 intro _ _ _ h hp;dsimp only[aj,F0]at h;split at h<;>cases h
 rename_i x a b;refine cb nB Tryz.func28 ?_
 intro O r F hO hr hF;cbv
 repeat' first|apply Zb|(apply bG<;>intro hb<;>cbv)
 all_goals(subst hO hr hF;(try simp only[nc]at*);(try simp only[ai,SS,sa,az]at*))
 all_goals refine ak ?_
 ·exact hE (by rw[bA];simp only[SS];omega)
 ·exact(Ar.2 (by omega)).symm
abbrev F4:cZ:=eK (fun F f=>match f with|41=>aj F|28=>aj F|_=>fun _=>none) (by
 intro f;dsimp only;split;exact bc;exact bi;exact db)
def dN:EC:=fun F=>fun
 |[.one (.v (.int Za k))]=>some (fun _=>True,[.k (F.inR k 0 3)])
 |_=>none
theorem fA:ec 193 dN:=by
 intro _ _ _ h hp;dsimp only[dN,F0]at h;split at h<;>cases h
 rename_i k;refine cb F4 Tryz.func193 ?_
 exact yl
abbrev F5:cZ:=eK (fun F f=>match f with|193=>dN F|28=>aj F|_=>fun _=>none) (by
 intro f;dsimp only;split;exact fA;exact bi;exact db)
def bD:EC:=fun F=>fun
 |[.one (.v (.int Za k))]=>some (fun _=>True,[.j (F.clsSz k)])
 |_=>none
theorem dA:ec 84 bD:=by
 intro _ _ _ h hp;dsimp only[bD,F0]at h;split at h<;>cases h
 rename_i k;refine cb F5 Tryz.func84 ?_
 intro O r F hO hr hF;cbv
 repeat' first|apply Zb|(apply bG<;>intro hb<;>cbv)
 all_goals(subst hO hr hF;(try simp only[nc]at*);(try simp only[ai,SS,sa,az]at*))
 all_goals exact afT
theorem d8:ec 183 bD:=by
 intro _ _ _ h hp;dsimp only[bD,F0]at h;split at h<;>cases h
 rename_i k;refine cb F5 Tryz.func183 ?_
 intro O r F hO hr hF;cbv
 repeat' first|apply Zb|(apply bG<;>intro hb<;>cbv)
 all_goals(subst hO hr hF;(try simp only[nc]at*);(try simp only[ai,SS,sa,az]at*);(try rw[QG (by assumption)]at*))
 all_goals exact afT
abbrev F6:cZ:=eK (fun F f=>match f with|41=>aj F|28=>aj F|84=>bD F|_=>fun _=>none) (by
 intro f;dsimp only;split;exact bc;exact bi;exact dA;exact db)
def cN:EC:=fun F=>fun
 |[.one (.v (.int Za s))]=>some (fun _=>True,[.j (F.clsOf s)])
 |_=>none
theorem lM:ec 77 cN:=by
 intro _ _ _ h hp;dsimp only[cN,F0]at h;split at h<;>cases h
 rename_i s;refine cb F6 Tryz.func77 ?_
 intro O r F hO hr hF;cbv
 repeat' first|apply Zb|(apply bG<;>intro hb<;>cbv)|(refine⟨[0,3],[],Int,fun k=>[.reg 3 (.j k)],fun k=>0<=k/\k<=3/\(k=0\/clsSz (k-1)<s),fun k=>(3-k).toNat,⟨0,?_,?_⟩,?_⟩;rotate_left;(focus (cbv;done));intro k hk;replace hk:0<=k/\k<=3/\(k=0\/clsSz (k-1)<s):=hk;obtain⟨k0,k1,k2⟩:=hk;cbv)|(refine ag (O.ar .add Za k 1) ?_ ?_ ?_;focus (cbv;done))
 all_goals(subst hO hr hF;(try simp only[nc]at*);(try simp only[ai,SS,sa,az]at*))
 all_goals exact afD
theorem lR:ec 179 cN:=by
 intro _ _ _ h hp;dsimp only[cN,F0]at h;split at h<;>cases h
 rename_i s;refine cb F6 Tryz.func179 ?_
 intro O r F hO hr hF;cbv
 repeat' first|apply Zb|(apply bG<;>intro hb<;>cbv)|(refine⟨[0,3],[],Int,fun k=>[.reg 3 (.j k)],fun k=>0<=k/\k<=3/\(k=0\/clsSz (k-1)<s),fun k=>(3-k).toNat,⟨0,?_,?_⟩,?_⟩;rotate_left;(focus (cbv;done));intro k hk;replace hk:0<=k/\k<=3/\(k=0\/clsSz (k-1)<s):=hk;obtain⟨k0,k1,k2⟩:=hk;cbv)|(refine ag (O.ar .add Za k 1) ?_ ?_ ?_;focus (cbv;done))
 all_goals(subst hO hr hF;(try simp only[nc]at*);(try simp only[ai,SS,sa,az]at*);(try rw[QG (k:=k) (by rw[bA];omega)]at*);(try rw[QE (k:=k) (by rw[bA];omega)]at*))
 all_goals exact afD
def ed:EC:=fun F=>fun
 |[.agg hl_]=>hL hl_ fun a0 a1 a2 a3 a4 a5 a6 a7 a8 a9 aA aB aC aD aE aF aG aH aI aJ aK aL aM aN=>(fun _=>Rw [tI,tI,tI,tI] a8/\a8.length<=1099511627776,[.j (F.lsI a8)])
 |_=>none
theorem uX:ec 89 ed:=by
 intro _ _ _ h hp;dsimp only[ed,F0,hL]at h;split at h;rotate_left;cases h;split at h<;>cases h
 rename_i a0 a1 a2 a3 a4 a5 a6 a7 a8 a9 aA aB aC aD aE aF aG aH aI aJ aK aL aM aN;obtain⟨hw,hn⟩:=hp;refine cb nB Tryz.func89 ?_
 intro O r F hO hr hF;cbv
 repeat' first|apply Zb|(apply bG<;>intro hb<;>cbv)|(refine⟨[3,7,8,9],[],Int×Int,fun s_=>match s_ with|(i,n)=>[.reg 9 (.j i),.reg 3 (.j n)],fun s_=>match s_ with|(i,n)=>0<=i/\i<=(a8.length:Int)/\n=B8 (szF a8) i.toNat,fun s_=>match s_ with|(i,n)=>a8.length-i.toNat,⟨(0,0),?_,?_⟩,?_⟩;rotate_left;(focus (cbv;done));intro s_ hi;obtain⟨i,n⟩:=s_;replace hi:0<=i/\i<=(a8.length:Int)/\n=B8 (szF a8) i.toNat:=hi;obtain⟨i0,i1,i2⟩:=hi;cbv)|(refine ag (O.ar .add Za i 1,O.ar .add Za n (O.gi a8 i 2)) ?_ ?_ ?_;focus (cbv;done))
 all_goals exact afw
theorem vA:ec 198 ed:=by
 intro _ _ _ h hp;dsimp only[ed,F0,hL]at h;split at h;rotate_left;cases h;split at h<;>cases h
 rename_i a0 a1 a2 a3 a4 a5 a6 a7 a8 a9 aA aB aC aD aE aF aG aH aI aJ aK aL aM aN;obtain⟨hw,hn⟩:=hp;refine cb nB Tryz.func198 ?_
 intro O r F hO hr hF;cbv
 repeat' first|apply Zb|(apply bG<;>intro hb<;>cbv)|(refine⟨[1,3,4],[1],Int×Int,fun s_=>match s_ with|(i,n)=>[.reg 4 (.j i),.reg 3 (.j n)],fun s_=>match s_ with|(i,n)=>0<=i/\i<=(a8.length:Int)/\n=B8 (szF a8) i.toNat,fun s_=>match s_ with|(i,n)=>a8.length-i.toNat,⟨(0,0),?_,?_⟩,?_⟩;rotate_left;(focus (cbv;done));intro s_ hi;obtain⟨i,n⟩:=s_;replace hi:0<=i/\i<=(a8.length:Int)/\n=B8 (szF a8) i.toNat:=hi;obtain⟨i0,i1,i2⟩:=hi;cbv)|(refine ag (O.ar .add Za i 1,O.ar .add Za n (O.gi a8 i 2)) ?_ ?_ ?_;focus (cbv;done))
 all_goals exact afw
abbrev W1:cZ:=eK (fun F f=>match f with|77=>cN F|84=>bD F|179=>cN F|183=>bD F|_=>fun _=>none) (by
 intro f;dsimp only;split;exact lM;exact dA;exact lR;exact d8;exact db)
def lW:EC:=fun F=>fun
 |[.agg [.v (.int Za d0),.v (.int Za d1),.v (.int Za d2),.v (.int Za d3)],.ptr [.v (.int Za ad)]]=>some (fun _=>True,[.k (F.eqB d1 ad)])
 |_=>none
theorem yR:ec 188 lW:=by
 intro _ _ _ h hp;dsimp only[lW,F0]at h;split at h<;>cases h
 rename_i d0 d1 d2 d3 ad;refine cb nB Tryz.func188 ?_
 intro O r F hO hr hF;cbv
 repeat' first|apply Zb|(apply bG<;>intro hb<;>cbv)
 all_goals(subst hO hr hF;(try simp only[nc]at*);(try simp only[ai,SS,sa,az]at*))
 all_goals first
  | (show(_:List DV)=_
     first
      |exact ak (wt (by assumption)).symm
      |exact ak (wq (by assumption)).symm
      |exact ak (hE (by unfold eqB;simp only[SS,VQ]))
      |done)
  |trivial
  |trace_state
def kC:EC:=fun F=>fun
 |[.agg [.v (.int Za d0),.v (.int Za d1),.v (.int Za d2)],.ptr [.v (.int Za pg)]]=>some (fun _=>True,[.k (F.eqB d0 pg)])
 |_=>none
theorem wW:ec 240 kC:=by
 intro _ _ _ h hp;dsimp only[kC,F0]at h;split at h<;>cases h
 rename_i d0 d1 d2 pg;refine cb nB Tryz.func240 ?_
 intro O r F hO hr hF;cbv
 repeat' first|apply Zb|(apply bG<;>intro hb<;>cbv)
 all_goals(subst hO hr hF;(try simp only[nc]at*);(try simp only[ai,SS,sa,az]at*))
 all_goals first
  | (show(_:List DV)=_
     first
      |exact ak (hE (by unfold eqB;simp only[SS,VQ]))
      |done)
  |trace_state
abbrev W3:cZ:=eK (fun F f=>match f with|188=>lW F|240=>kC F|_=>fun _=>none) (by
 intro f;dsimp only;split;exact yR;exact wW;exact db)
def bh:EC:=fun F=>fun
 |[.one (.s 4 os),.fn 188 [[.v (.int Za id)]]]=>some (fun _=>Rw [tI,tI,tI,tI] os/\os.length<=1099511627776,[.j (F.obI os id)])
 |_=>none
theorem cD:ec 187 bh:=by
 intro _ _ _ h hp;dsimp only[bh,F0]at h;split at h<;>cases h
 rename_i os id;obtain⟨hw,hn⟩:=hp;refine cb W3 Tryz.func187 ?_
 intro O r F hO hr hF;cbv
 repeat' first|apply Zb|(apply bG<;>intro hb<;>cbv)|(refine⟨[0,1,7,8],[0],Int,fun i=>[.reg 8 (.j i)],fun i=>0<=i/\i<=((os.length:Nat):Int)/\upto (bT (Ht os id)) i,fun i=>(os.length)-i.toNat,⟨0,?_,?_⟩,?_⟩;rotate_left;(focus (cbv;done));intro i hi;replace hi:0<=i/\i<=((os.length:Nat):Int)/\upto (bT (Ht os id)) i:=hi;obtain⟨i0,i1,i2⟩:=hi;cbv)|(refine ag (O.ar .add Za i 1) ?_ ?_ ?_;focus (cbv;done))
 all_goals(subst hO hr hF;(try simp only[nc]at*);(try simp only[ai,SS,sa,az]at*);(try rw[cQ (by omega) (by omega)]))
 all_goals first
  | (show(_:List DV)=_
     first
      |exact cv (eD i2 i0 (by assumption) (show Ht os id i=true from by assumption)).symm
      |exact cv (eD i2 i0 (by assumption) (show Ht os id i=true from wt (by assumption))).symm
      |exact cv (eE i2 (by assumption)).symm
      |done)
  |omega
  |exact fU
  |(show(lk _ _).isSome=true;kernel_rfl)
  |exact bB
  |exact aV i2 (iD (show Ht os id i=false from by assumption))
  |exact aV i2 (iD (show Ht os id i=false from wq (by assumption)))
  |exact⟨trivial,trivial⟩
  |trivial
  |trace_state
def ba:EC:=fun F=>fun
 |[.one (.s 3 os),.fn 240 [[.v (.int Za id)]]]=>some (fun _=>Rw [tI,tI,tI] os/\os.length<=1099511627776,[.j (F.spI os id)])
 |_=>none
theorem cq:ec 239 ba:=by
 intro _ _ _ h hp;dsimp only[ba,F0]at h;split at h<;>cases h
 rename_i os id;obtain⟨hw,hn⟩:=hp;refine cb W3 Tryz.func239 ?_
 intro O r F hO hr hF;cbv
 repeat' first|apply Zb|(apply bG<;>intro hb<;>cbv)|(refine⟨[0,1,7,8],[0],Int,fun i=>[.reg 8 (.j i)],fun i=>0<=i/\i<=((os.length:Nat):Int)/\upto (bT (isSp os id)) i,fun i=>(os.length)-i.toNat,⟨0,?_,?_⟩,?_⟩;rotate_left;(focus (cbv;done));intro i hi;replace hi:0<=i/\i<=((os.length:Nat):Int)/\upto (bT (isSp os id)) i:=hi;obtain⟨i0,i1,i2⟩:=hi;cbv)|(refine ag (O.ar .add Za i 1) ?_ ?_ ?_;focus (cbv;done))
 all_goals(subst hO hr hF;(try simp only[nc]at*);(try simp only[ai,SS,sa,az]at*);(try rw[cQ (by omega) (by omega)]))
 all_goals first
  | (show(_:List DV)=_
     first
      |exact cv (eD i2 i0 (by assumption) (show isSp os id i=true from by assumption)).symm
      |exact cv (eE i2 (by assumption)).symm
      |done)
  |omega
  |exact fU
  |(show(lk _ _).isSome=true;kernel_rfl)
  |exact bB
  |exact aV i2 (iD (show isSp os id i=false from by assumption))
  |trace_state
abbrev W4:cZ:=eK (fun F f=>match f with|187=>bh F|239=>ba F|_=>fun _=>none) (by
 intro f;dsimp only;split;exact cD;exact cq;exact db)
def fh:EC:=fun F=>fun
 |[.agg hl_,.one (.v (.int Za pg))]=>hL hl_ fun a0 a1 a2 a3 a4 a5 a6 a7 a8 a9 aA aB aC aD aE aF aG aH aI aJ aK aL aM aN=>(fun _=>Rw [tI,tI,tI] a6/\a6.length<=1099511627776,[.j (F.spI a6 pg)])
 |_=>none
theorem Bs:ec 135 fh:=by
 intro _ _ _ h hp;dsimp only[fh,F0,hL]at h;split at h;rotate_left;cases h;split at h<;>cases h
 rename_i pg _ a0 a1 a2 a3 a4 a5 a6 a7 a8 a9 aA aB aC aD aE aF aG aH aI aJ aK aL aM aN;refine cb W4 Tryz.func135 ?_
 intro O r F hO hr hF;cbv
 repeat' first|apply Zb|(apply bG<;>intro hb<;>cbv)
 all_goals(subst hO hr hF;(try simp only[nc]at*);(try simp only[ai,SS,sa,az]at*))
 all_goals first|exact hp|exact rfl|trace_state
theorem sB:ec 176 fh:=by
 intro _ _ _ h hp;dsimp only[fh,F0,hL]at h;split at h;rotate_left;cases h;split at h<;>cases h
 rename_i pg _ a0 a1 a2 a3 a4 a5 a6 a7 a8 a9 aA aB aC aD aE aF aG aH aI aJ aK aL aM aN;obtain⟨hw,hn⟩:=hp;refine cb nB Tryz.func176 ?_
 intro O r F hO hr hF;cbv
 repeat' first|apply Zb|(apply bG<;>intro hb<;>cbv)|(refine⟨[1,2,5],[2],Int,fun i=>[.reg 5 (.j i)],fun i=>0<=i/\i<=((a6.length:Nat):Int)/\upto (bT (isSp a6 pg)) i,fun i=>(a6.length)-i.toNat,⟨0,?_,?_⟩,?_⟩;rotate_left;(focus (cbv;done));intro i hi;replace hi:0<=i/\i<=((a6.length:Nat):Int)/\upto (bT (isSp a6 pg)) i:=hi;obtain⟨i0,i1,i2⟩:=hi;cbv)|(refine ag (O.ar .add Za i 1) ?_ ?_ ?_;focus (cbv;done))
 all_goals(subst hO hr hF;(try simp only[nc]at*);(try simp only[ai,SS,sa,az]at*);(try rw[cQ (by omega) (by omega)]))
 all_goals first
  | (show(_:List DV)=_
     first
      |exact cv (eD i2 i0 (by assumption) (show isSp a6 pg i=true from wt (by assumption))).symm
      |exact cv (eE i2 (by assumption)).symm
      |done)
  |omega
  |exact fU
  |exact bB
  |exact aV i2 (iD (show isSp a6 pg i=false from wq (by assumption)))
  |trace_state
def cO:EC:=fun F=>fun
 |[.agg [.s 2 es],.one (.v (.int Za f))]=>some (fun _=>Rw [tI,tI] es/\es.length<=1099511627776,[.one (.s 1 (F.pagesOn es f))])
 |_=>none
theorem lN:ec 315 cO:=by
 intro _ _ _ h hp;dsimp only[cO,F0]at h;split at h<;>cases h
 rename_i es f;obtain⟨hw,hlen⟩:=hp;refine cb nB Tryz.func315 ?_
 intro O r F hO hr hF;cbv
 repeat' first|apply Zb|(apply bG<;>intro hb<;>cbv)|(refine⟨[1,5,10,11,12],[5],Int×af,fun s_=>match s_ with|(i,out)=>[.reg 12 (.j i),.reg 5 (.one (.vw 5 0 0 0 (O.ln out))),.leaf 5 0 ⟨0,0,none,.own (.s 1 out)⟩],fun s_=>match s_ with|(i,out)=>0<=i/\i<=(es.length:Int)/\out=ye es f i.toNat,fun s_=>match s_ with|(i,out)=>es.length-i.toNat,⟨(0,[]),?_,?_⟩,?_⟩;rotate_left;(focus (cbv;done));intro s_ hi;obtain⟨i,out⟩:=s_;replace hi:0<=i/\i<=(es.length:Int)/\out=ye es f i.toNat:=hi;obtain⟨i0,i1,i2⟩:=hi;cbv)|(refine ag (O.ar .add Za i 1,O.cat out (O.sub [[.i i]] 0 (O.ln [[.i i]]))) ?_ ?_ ?_;focus (cbv;done))|(refine ag (O.ar .add Za i 1,out) ?_ ?_ ?_;focus (cbv;done))
 all_goals exact aft
theorem lU:ec 331 cO:=by
 intro _ _ _ h hp;dsimp only[cO,F0]at h;split at h<;>cases h
 rename_i es f;obtain⟨hw,hlen⟩:=hp;refine cb nB Tryz.func331 ?_
 intro O r F hO hr hF;cbv
 repeat' first|apply Zb|(apply bG<;>intro hb<;>cbv)|(refine⟨[1,2,5,6],[2,5],Int×af,fun s_=>match s_ with|(i,out)=>[.reg 6 (.j i),.reg 5 (.one (.vw 5 0 0 0 (O.ln out))),.leaf 5 0 ⟨0,0,none,.own (.s 1 out)⟩],fun s_=>match s_ with|(i,out)=>0<=i/\i<=(es.length:Int)/\out=ye es f i.toNat,fun s_=>match s_ with|(i,out)=>es.length-i.toNat,⟨(0,[]),?_,?_⟩,?_⟩;rotate_left;(focus (cbv;done));intro s_ hi;obtain⟨i,out⟩:=s_;replace hi:0<=i/\i<=(es.length:Int)/\out=ye es f i.toNat:=hi;obtain⟨i0,i1,i2⟩:=hi;cbv)|(refine ag (O.ar .add Za i 1,O.cat out (O.sub [[.i i]] 0 (O.ln [[.i i]]))) ?_ ?_ ?_;focus (cbv;done))|(refine ag (O.ar .add Za i 1,out) ?_ ?_ ?_;focus (cbv;done))
 all_goals exact aft
abbrev B1:cZ:=eK (fun F f=>match f with|41=>aj F|28=>aj F|_=>fun _=>none) (by
 intro f;dsimp only;split;exact bc;exact bi;exact db)
def cK:EC:=fun F=>fun
 |[.agg [.s 2 es],.one (.v (.int Za p))]=>some (fun _=>Rw [tI,tI] es,[.agg [.i (F.peM es p),.i (F.peF es p)]])
 |_=>none
theorem jE:ec 82 cK:=by
 intro _ _ _ h hp;dsimp only[cK,F0]at h;split at h<;>cases h
 rename_i es p;have hm:=hp.1;unfold maxLen at hm;have hsb:bO .sub Za (es.length:Int) 1=es.length-1:=di (by omega);refine cb B1 Tryz.func82 ?_
 exact afv
theorem oJ:ec 181 cK:=by
 intro _ _ _ h hp;dsimp only[cK,F0]at h;split at h<;>cases h
 rename_i es p;have hm:=hp.1;unfold maxLen at hm;have hsb:bO .sub Za (es.length:Int) 1=es.length-1:=di (by omega);refine cb B1 Tryz.func181 ?_
 exact afv
abbrev B2:cZ:=eK (fun F f=>match f with|82=>cK F|315=>cO F|181=>cK F|331=>cO F|_=>fun _=>none) (by
 intro f;dsimp only;split;exact jE;exact lN;exact oJ;exact lU;exact db)
def cy:EC:=fun F=>fun
 |[.agg hl_,.one (.v (.int Za pg))]=>hL hl_ fun a0 a1 a2 a3 a4 a5 a6 a7 a8 a9 aA aB aC aD aE aF aG aH aI aJ aK aL aM aN=>(fun _=>Rw [tI,tI] a2/\a2.length<=1099511627776,[.one (.s 1 (F.fpg a2 pg))])
 |_=>none
theorem nh:ec 229 cy:=by
 intro _ _ _ h hp;dsimp only[cy,F0,hL]at h;split at h;rotate_left;cases h;split at h<;>cases h
 rename_i pg _ a0 a1 a2 a3 a4 a5 a6 a7 a8 a9 aA aB aC aD aE aF aG aH aI aJ aK aL aM aN;obtain⟨hw,hn⟩:=hp;refine cb B2 Tryz.func229 ?_
 exact afE
theorem iN:ec 262 cy:=by
 intro _ _ _ h hp;dsimp only[cy,F0,hL]at h;split at h;rotate_left;cases h;split at h<;>cases h
 rename_i pg _ a0 a1 a2 a3 a4 a5 a6 a7 a8 a9 aA aB aC aD aE aF aG aH aI aJ aK aL aM aN;obtain⟨hw,hn⟩:=hp;refine cb B2 Tryz.func262 ?_
 exact afE
def fR:EC:=fun F=>fun
 |[.one (.s 1 l),.one (.v (.int Za x))]=>some (fun _=>Rw [tI] l/\l.length<=1099511627776,[.j (F.idxI l x)])
 |_=>none
theorem o6:ec 366 fR:=by
 intro _ _ _ h hp;dsimp only[fR,F0]at h;split at h<;>cases h
 rename_i l x;obtain⟨hw,hn⟩:=hp;refine cb nB Tryz.func366 ?_
 intro O r F hO hr hF;cbv
 repeat' first|apply Zb|(apply bG<;>intro hb<;>cbv)|(refine⟨[0,1,7,8],[0],Int,fun i=>[.reg 8 (.j i)],fun i=>0<=i/\i<=((l.length:Nat):Int)/\upto (bT (Kn l x)) i,fun i=>(l.length)-i.toNat,⟨0,?_,?_⟩,?_⟩;rotate_left;(focus (cbv;done));intro i hi;replace hi:0<=i/\i<=((l.length:Nat):Int)/\upto (bT (Kn l x)) i:=hi;obtain⟨i0,i1,i2⟩:=hi;cbv)|(refine ag (O.ar .add Za i 1) ?_ ?_ ?_;focus (cbv;done))
 all_goals(subst hO hr hF;(try simp only[nc]at*);(try simp only[ai,SS,sa,az]at*);(try rw[cQ (by omega) (by omega)]))
 all_goals first
  | (show(_:List DV)=_
     first
      |exact cv (eD i2 i0 (by assumption) (show Kn l x i=true from wt (by assumption))).symm
      |exact cv (eE i2 (by assumption)).symm
      |done)
  |omega
  |exact fU
  |exact bB
  |exact aV i2 (iD (show Kn l x i=false from wq (by assumption)))
  |trace_state
abbrev B3:cZ:=eK (fun F f=>match f with|366=>fR F|_=>fun _=>none) (by
 intro f;dsimp only;split;exact o6;exact db)
def dy:EC:=fun F=>fun
 |[.one (.s 1 l),.one (.v (.int Za x))]=>some (fun _=>Rw [tI] l/\l.length<=1099511627776,[.k (F.hasB l x)])
 |_=>none
theorem hH:ec 349 dy:=by
 intro _ _ _ h hp;dsimp only[dy,F0]at h;split at h<;>cases h
 rename_i l x;refine cb B3 Tryz.func349 ?_
 intro O r F hO hr hF;cbv
 repeat' first|apply Zb|(apply bG<;>intro hb<;>cbv)
 all_goals(subst hO hr hF;(try simp only[nc]at*);(try simp only[ai,SS,sa,az]at*))
 all_goals first
  | (show(_:List DV)=_
     first
      |exact ak (show dB .geq (idxI l x) 0=decide (0<=idxI l x)from rfl)
      |done)
  |exact hp
  |trace_state
abbrev B4:cZ:=eK (fun F f=>match f with|41=>aj F|229=>cy F|349=>dy F|28=>aj F|262=>cy F|_=>fun _=>none) (by
 intro f;dsimp only;split;exact bc;exact nh;exact hH;exact bi;exact iN;exact db)
def dr:EC:=fun F=>fun
 |[.agg hl_,.one (.v (.int Za ix))]=>hL hl_ fun a0 a1 a2 a3 a4 a5 a6 a7 a8 a9 aA aB aC aD aE aF aG aH aI aJ aK aL aM aN=>(fun _=>Rw [tI,tI] a2/\Rw [tI,tI,tI] a6/\a2.length<=1099511627776/\a6.length<=1099511627776,[.j (F.ubB a2 a6 ix)])
 |_=>none
theorem pQ:ec 291 dr:=by
 intro _ _ _ h hp;dsimp only[dr,F0,hL]at h;split at h;rotate_left;cases h;split at h<;>cases h
 rename_i ix _ a0 a1 a2 a3 a4 a5 a6 a7 a8 a9 aA aB aC aD aE aF aG aH aI aJ aK aL aM aN;obtain⟨he,hw,hm,hn⟩:=hp;refine cb B4 Tryz.func291 ?_
 intro O r F hO hr hF;cbv
 repeat' first|apply Zb|(apply bG<;>intro hb<;>cbv)|(refine⟨[5,6,31,32,33],[6],Int×Int,fun s_=>match s_ with|(i,b)=>[.reg 33 (.j i),.reg 5 (.j b)],fun s_=>match s_ with|(i,b)=>0<=i/\i<=(a6.length:Int)/\b=Ev a6 (fpg a2 (ah a6 ix 0)) (ah a6 ix 2) i.toNat,fun s_=>match s_ with|(i,b)=>a6.length-i.toNat,⟨(0,O.gi a6 ix 2),?_,?_⟩,?_⟩;rotate_left;(focus (cbv;done));intro s_ hi;obtain⟨i,b⟩:=s_;replace hi:0<=i/\i<=(a6.length:Int)/\b=Ev a6 (fpg a2 (ah a6 ix 0)) (ah a6 ix 2) i.toNat:=hi;obtain⟨i0,i1,i2⟩:=hi;cbv)|(refine ag (O.ar .add Za i 1,b) ?_ ?_ ?_;focus (cbv;done))|(refine ag (O.ar .add Za i 1,O.ar .or Za b (O.gi a6 i 2)) ?_ ?_ ?_;focus (cbv;done))
 all_goals(subst hO hr hF;(try simp only[nc]at*);(try simp only[ai,SS,sa,az]at*))
 all_goals(have hsb:bO .sub Za (a6.length:Int) 1=a6.length-1:=di (by omega);(try simp only[hsb]at*);(try(have hz:=bA.1 (‹inR ix 0 ((a6.length:Int)-1)=true›))))
 all_goals(have hfp:=Hf (es:=a2) (p:=ah a6 ix 0) hm;(try rw[cQ (by omega) (by omega)]))
 all_goals first
  | (show(_:List DV)=_
     first
      |exact cv (RR (by assumption)).symm
      |exact cv ((i2.trans (by rw[show i.toNat=a6.length by omega])).trans (Ns (by assumption)).symm)
      |done)
  | (show(_:Int)=_
     first
      |(rw[P0 i0 (by assumption), <-i2])
      |(rw[aa5 i0 (by assumption), <-i2])
      |exact(rfl:ah a6 ix 2=Ev a6 (fpg a2 (ah a6 ix 0)) (ah a6 ix 2) 0)
      |done)
  |omega
  |(show aP _ _=true;kernel_rfl)
  |exact fU
  |exact⟨he,hm⟩
  |exact⟨hfp.1,hfp.2⟩
  |exact⟨Zf,Zf⟩
  |exact Zf
  |trace_state
theorem pZ:ec 343 dr:=by
 intro _ _ _ h hp;dsimp only[dr,F0,hL]at h;split at h;rotate_left;cases h;split at h<;>cases h
 rename_i ix _ a0 a1 a2 a3 a4 a5 a6 a7 a8 a9 aA aB aC aD aE aF aG aH aI aJ aK aL aM aN;obtain⟨he,hw,hm,hn⟩:=hp;refine cb B4 Tryz.func343 ?_
 intro O r F hO hr hF;cbv
 repeat' first|apply Zb|(apply bG<;>intro hb<;>cbv)|(refine⟨[2,5,6,7,8],[2,6],Int×Int,fun s_=>match s_ with|(j,c)=>[.reg 8 (.j j),.reg 5 (.j c)],fun s_=>match s_ with|(j,c)=>0<=j/\j<=(a6.length:Int)/\c=E2 a6 (ah (fpg a2 (ah a6 ix 0)) k 0) b j.toNat,fun s_=>match s_ with|(j,c)=>a6.length-j.toNat,⟨(0,b),?_,?_⟩,?_⟩;rotate_left;(focus (cbv;done));intro s_ hj;obtain⟨j,c⟩:=s_;replace hj:0<=j/\j<=(a6.length:Int)/\c=E2 a6 (ah (fpg a2 (ah a6 ix 0)) k 0) b j.toNat:=hj;obtain⟨j0,j1,j2⟩:=hj;cbv)|(refine ag (O.ar .add Za j 1,c) ?_ ?_ ?_;focus (cbv;done))|(refine ag (O.ar .add Za j 1,O.ar .or Za c (O.gi a6 j 2)) ?_ ?_ ?_;focus (cbv;done))|(refine ag (O.ar .add Za k 1,c) ?_ ?_ ?_;focus (cbv;done))|(refine⟨[2,5,6,7],[2,6],Int×Int,fun s_=>match s_ with|(k,b)=>[.reg 7 (.j k),.reg 5 (.j b)],fun s_=>match s_ with|(k,b)=>0<=k/\k<=((fpg a2 (ah a6 ix 0)).length:Int)/\b=Kd a6 (fpg a2 (ah a6 ix 0)) (ah a6 ix 2) k.toNat,fun s_=>match s_ with|(k,b)=>(fpg a2 (ah a6 ix 0)).length-k.toNat,⟨(0,O.gi a6 ix 2),?_,?_⟩,?_⟩;rotate_left;(focus (cbv;done));intro s_ hk;obtain⟨k,b⟩:=s_;replace hk:0<=k/\k<=((fpg a2 (ah a6 ix 0)).length:Int)/\b=Kd a6 (fpg a2 (ah a6 ix 0)) (ah a6 ix 2) k.toNat:=hk;obtain⟨k0,k1,k2⟩:=hk;cbv)
 all_goals(subst hO hr hF;(try simp only[nc]at*);(try simp only[ai,SS,sa,az]at*))
 all_goals(have hsb:bO .sub Za (a6.length:Int) 1=a6.length-1:=di (by omega);(try simp only[hsb]at*);(try(have hz:=bA.1 (‹inR ix 0 ((a6.length:Int)-1)=true›))))
 all_goals(have hfp:=Hf (es:=a2) (p:=ah a6 ix 0) hm;(try(have hpr:=rq (l:=fpg a2 (ah a6 ix 0)) (i:=k) k0;simp only[hpr]at*));(try rw[cQ (by omega) (by omega)]))
 all_goals first
  | (show(_:List DV)=_
     first
      |exact cv (RR (by assumption)).symm
      |exact cv ((k2.trans (by rw[show k.toNat=(fpg a2 (ah a6 ix 0)).length by omega,aeM (aaW hw hz.1 (by omega))])).trans (Ns (by assumption)).symm)
      |done)
  | (show(_:Int)=_
     first
      |(rw[P1 j0 (by assumption), <-j2])
      |(rw[aa6 j0 (by assumption), <-j2])
      |(rw[aa7 k0, <-k2,j2,show j.toNat=a6.length by omega])
      |exact(rfl:ah a6 ix 2=Kd a6 (fpg a2 (ah a6 ix 0)) (ah a6 ix 2) 0)
      |exact(rfl:b=E2 a6 (ah (fpg a2 (ah a6 ix 0)) k 0) b 0)
      |done)
  |omega
  |(show aP _ _=true;kernel_rfl)
  |exact fU
  |exact⟨he,hm⟩
  |exact ON hfp.1 k0 (by omega)
  |exact⟨Zf,Zf⟩
  |trace_state
abbrev C1:cZ:=eK (fun F f=>match f with|41=>aj F|28=>aj F|_=>fun _=>none) (by
 intro f;dsimp only;split;exact bc;exact bi;exact db)
def d5:EC:=fun F=>fun
 |[.one (.v (.int Za b)),.one (.v (.int Za i))]=>some (fun _=>True,[.k (F.slB b i)])
 |_=>none
theorem sv:ec 321 d5:=by
 intro _ _ _ h hp;dsimp only[d5,F0]at h;split at h<;>cases h
 rename_i b i;refine cb C1 Tryz.func321 ?_
 exact afF
theorem sC:ec 358 d5:=by
 intro _ _ _ h hp;dsimp only[d5,F0]at h;split at h<;>cases h
 rename_i b i;refine cb C1 Tryz.func358 ?_
 exact afF
abbrev C2:cZ:=eK (fun F f=>match f with|321=>d5 F|358=>d5 F|_=>fun _=>none) (by
 intro f;dsimp only;split;exact sv;exact sC;exact db)
def cF:EC:=fun F=>fun
 |[.one (.v (.int Za b)),.one (.v (.int Za i))]=>some (fun _=>True,[.k (F.hsB b i)])
 |_=>none
theorem iL:ec 242 cF:=by
 intro _ _ _ h hp;dsimp only[cF,F0]at h;split at h<;>cases h
 rename_i b i;refine cb C2 Tryz.func242 ?_
 exact afy
theorem lT:ec 305 cF:=by
 intro _ _ _ h hp;dsimp only[cF,F0]at h;split at h<;>cases h
 rename_i b i;refine cb C2 Tryz.func305 ?_
 exact afy
end Go.V