/- Contracts. -/
import Derived.Test.YtbedjnlfdopeeaaGreatFnu
set_option linter.all false
open Go
open And renaming intro->Zb
open IntKind renaming i64->Za
namespace Go.V
open Go Go.Proofs
set_option maxRecDepth 1000000
set_option maxHeartbeats 8000000
def aj:EC:=fun F=>fun
 |[.one (.v (.int Za x)),.one (.v (.int Za a)),.one (.v (.int Za b))]=>some (fun _=>True,[.k (F.inR x a b)])
 |_=>none
theorem bB:ec 41 aj:=by
 intro _ _ _ h hp;dsimp only[aj,F0]at h;split at h<;>cases h
 rename_i x a b;refine cb nB Tryz.func41 ?_
 intro O r F hO hr hF;cbv
 repeat' first|apply Zb|(apply bF<;>intro hb<;>cbv)
 all_goals(subst hO hr hF;(try simp only[nc]at*);(try simp only[ah,SS,sa,az]at*))
 all_goals refine ai ?_
 ·exact gW (by rw[bH];simp only[SS];omega)
 ·exact(AJ.2 (by omega)).symm
theorem bE:ec 28 aj:=by
 intro _ _ _ h hp;dsimp only[aj,F0]at h;split at h<;>cases h
 rename_i x a b;refine cb nB Tryz.func28 ?_
 intro O r F hO hr hF;cbv
 repeat' first|apply Zb|(apply bF<;>intro hb<;>cbv)
 all_goals(subst hO hr hF;(try simp only[nc]at*);(try simp only[ah,SS,sa,az]at*))
 all_goals refine ai ?_
 ·exact gW (by rw[bH];simp only[SS];omega)
 ·exact(AJ.2 (by omega)).symm
abbrev F4:da:=ez (fun F f=>match f with|41=>aj F|28=>aj F|_=>fun _=>none) (by
 intro f;dsimp only;split;exact bB;exact bE;exact de)
def dL:EC:=fun F=>fun
 |[.one (.v (.int Za k))]=>some (fun _=>True,[.k (F.inR k 0 3)])
 |_=>none
theorem fo:ec 193 dL:=by
 intro _ _ _ h hp;dsimp only[dL,F0]at h;split at h<;>cases h
 rename_i k;refine cb F4 Tryz.func193 ?_
 exact yt
abbrev F5:da:=ez (fun F f=>match f with|193=>dL F|28=>aj F|_=>fun _=>none) (by
 intro f;dsimp only;split;exact fo;exact bE;exact de)
def bA:EC:=fun F=>fun
 |[.one (.v (.int Za k))]=>some (fun _=>True,[.j (F.clsSz k)])
 |_=>none
theorem cT:ec 84 bA:=by
 intro _ _ _ h hp;dsimp only[bA,F0]at h;split at h<;>cases h
 rename_i k;refine cb F5 Tryz.func84 ?_
 intro O r F hO hr hF;cbv
 repeat' first|apply Zb|(apply bF<;>intro hb<;>cbv)
 all_goals(subst hO hr hF;(try simp only[nc]at*);(try simp only[ah,SS,sa,az]at*))
 all_goals exact agI
theorem d9:ec 183 bA:=by
 intro _ _ _ h hp;dsimp only[bA,F0]at h;split at h<;>cases h
 rename_i k;refine cb F5 Tryz.func183 ?_
 intro O r F hO hr hF;cbv
 repeat' first|apply Zb|(apply bF<;>intro hb<;>cbv)
 all_goals(subst hO hr hF;(try simp only[nc]at*);(try simp only[ah,SS,sa,az]at*);(try rw[Rq (by assumption)]at*))
 all_goals exact agI
abbrev F6:da:=ez (fun F f=>match f with|41=>aj F|28=>aj F|84=>bA F|_=>fun _=>none) (by
 intro f;dsimp only;split;exact bB;exact bE;exact cT;exact de)
def cL:EC:=fun F=>fun
 |[.one (.v (.int Za s))]=>some (fun _=>True,[.j (F.clsOf s)])
 |_=>none
theorem lV:ec 77 cL:=by
 intro _ _ _ h hp;dsimp only[cL,F0]at h;split at h<;>cases h
 rename_i s;refine cb F6 Tryz.func77 ?_
 intro O r F hO hr hF;cbv
 repeat' first|apply Zb|(apply bF<;>intro hb<;>cbv)|(refine⟨[0,3],[],Int,fun k=>[.reg 3 (.j k)],fun k=>0<=k/\k<=3/\(k=0\/clsSz (k-1)<s),fun k=>(3-k).toNat,⟨0,?_,?_⟩,?_⟩;rotate_left;(focus (cbv;done));intro k hk;replace hk:0<=k/\k<=3/\(k=0\/clsSz (k-1)<s):=hk;obtain⟨k0,k1,k2⟩:=hk;cbv)|(refine ag (O.ar .add Za k 1) ?_ ?_ ?_;focus (cbv;done))
 all_goals(subst hO hr hF;(try simp only[nc]at*);(try simp only[ah,SS,sa,az]at*))
 all_goals exact ags
theorem mf:ec 179 cL:=by
 intro _ _ _ h hp;dsimp only[cL,F0]at h;split at h<;>cases h
 rename_i s;refine cb F6 Tryz.func179 ?_
 intro O r F hO hr hF;cbv
 repeat' first|apply Zb|(apply bF<;>intro hb<;>cbv)|(refine⟨[0,3],[],Int,fun k=>[.reg 3 (.j k)],fun k=>0<=k/\k<=3/\(k=0\/clsSz (k-1)<s),fun k=>(3-k).toNat,⟨0,?_,?_⟩,?_⟩;rotate_left;(focus (cbv;done));intro k hk;replace hk:0<=k/\k<=3/\(k=0\/clsSz (k-1)<s):=hk;obtain⟨k0,k1,k2⟩:=hk;cbv)|(refine ag (O.ar .add Za k 1) ?_ ?_ ?_;focus (cbv;done))
 all_goals(subst hO hr hF;(try simp only[nc]at*);(try simp only[ah,SS,sa,az]at*);(try rw[Rq (k:=k) (by rw[bH];omega)]at*);(try rw[Ro (k:=k) (by rw[bH];omega)]at*))
 all_goals exact ags
abbrev W1:da:=ez (fun F f=>match f with|77=>cL F|84=>bA F|179=>cL F|183=>bA F|_=>fun _=>none) (by
 intro f;dsimp only;split;exact lV;exact cT;exact mf;exact d9;exact de)
def mn:EC:=fun F=>fun
 |[.agg [.v (.int Za d0),.v (.int Za d1),.v (.int Za d2),.v (.int Za d3)],.ptr [.v (.int Za ad)]]=>some (fun _=>True,[.k (F.eqB d1 ad)])
 |_=>none
theorem y9:ec 188 mn:=by
 intro _ _ _ h hp;dsimp only[mn,F0]at h;split at h<;>cases h
 rename_i d0 d1 d2 d3 ad;refine cb nB Tryz.func188 ?_
 intro O r F hO hr hF;cbv
 repeat' first|apply Zb|(apply bF<;>intro hb<;>cbv)
 all_goals(subst hO hr hF;(try simp only[nc]at*);(try simp only[ah,SS,sa,az]at*))
 all_goals first
  | (show(_:List DV)=_
     first
      |exact ai (tW (by assumption)).symm
      |exact ai (wn (by assumption)).symm
      |exact ai (gW (by unfold eqB;simp only[SS,VV]))
      |done)
  |trivial
  |trace_state
def kH:EC:=fun F=>fun
 |[.agg [.v (.int Za d0),.v (.int Za d1),.v (.int Za d2)],.ptr [.v (.int Za pg)]]=>some (fun _=>True,[.k (F.eqB d0 pg)])
 |_=>none
theorem xd:ec 240 kH:=by
 intro _ _ _ h hp;dsimp only[kH,F0]at h;split at h<;>cases h
 rename_i d0 d1 d2 pg;refine cb nB Tryz.func240 ?_
 intro O r F hO hr hF;cbv
 repeat' first|apply Zb|(apply bF<;>intro hb<;>cbv)
 all_goals(subst hO hr hF;(try simp only[nc]at*);(try simp only[ah,SS,sa,az]at*))
 all_goals first
  | (show(_:List DV)=_
     first
      |exact ai (gW (by unfold eqB;simp only[SS,VV]))
      |done)
  |trace_state
abbrev W3:da:=ez (fun F f=>match f with|188=>mn F|240=>kH F|_=>fun _=>none) (by
 intro f;dsimp only;split;exact y9;exact xd;exact de)
def bh:EC:=fun F=>fun
 |[.one (.s 4 os),.fn 188 [[.v (.int Za id)]]]=>some (fun _=>Rw [tI,tI,tI,tI] os/\os.length<=1099511627776,[.j (F.obI os id)])
 |_=>none
theorem cB:ec 187 bh:=by
 intro _ _ _ h hp;dsimp only[bh,F0]at h;split at h<;>cases h
 rename_i os id;obtain⟨hw,hn⟩:=hp;refine cb W3 Tryz.func187 ?_
 intro O r F hO hr hF;cbv
 repeat' first|apply Zb|(apply bF<;>intro hb<;>cbv)|(refine⟨[0,1,7,8],[0],Int,fun i=>[.reg 8 (.j i)],fun i=>0<=i/\i<=((os.length:Nat):Int)/\upto (cZ (ue os id)) i,fun i=>(os.length)-i.toNat,⟨0,?_,?_⟩,?_⟩;rotate_left;(focus (cbv;done));intro i hi;replace hi:0<=i/\i<=((os.length:Nat):Int)/\upto (cZ (ue os id)) i:=hi;obtain⟨i0,i1,i2⟩:=hi;cbv)|(refine ag (O.ar .add Za i 1) ?_ ?_ ?_;focus (cbv;done))
 all_goals(subst hO hr hF;(try simp only[nc]at*);(try simp only[ah,SS,sa,az]at*);(try rw[db (by omega) (by omega)]))
 all_goals first
  | (show(_:List DV)=_
     first
      |exact cq (dM i2 i0 (by assumption) (show ue os id i=true from by assumption)).symm
      |exact cq (dM i2 i0 (by assumption) (show ue os id i=true from tW (by assumption))).symm
      |exact cq (eY i2 (by assumption)).symm
      |done)
  |omega
  |exact gj
  |(show(lk _ _).isSome=true;kernel_rfl)
  |exact bK
  |exact aZ i2 (ji (show ue os id i=false from by assumption))
  |exact aZ i2 (ji (show ue os id i=false from wn (by assumption)))
  |exact⟨trivial,trivial⟩
  |trivial
  |trace_state
def bc:EC:=fun F=>fun
 |[.one (.s 3 os),.fn 240 [[.v (.int Za id)]]]=>some (fun _=>Rw [tI,tI,tI] os/\os.length<=1099511627776,[.j (F.spI os id)])
 |_=>none
theorem cu:ec 239 bc:=by
 intro _ _ _ h hp;dsimp only[bc,F0]at h;split at h<;>cases h
 rename_i os id;obtain⟨hw,hn⟩:=hp;refine cb W3 Tryz.func239 ?_
 intro O r F hO hr hF;cbv
 repeat' first|apply Zb|(apply bF<;>intro hb<;>cbv)|(refine⟨[0,1,7,8],[0],Int,fun i=>[.reg 8 (.j i)],fun i=>0<=i/\i<=((os.length:Nat):Int)/\upto (cZ (isSp os id)) i,fun i=>(os.length)-i.toNat,⟨0,?_,?_⟩,?_⟩;rotate_left;(focus (cbv;done));intro i hi;replace hi:0<=i/\i<=((os.length:Nat):Int)/\upto (cZ (isSp os id)) i:=hi;obtain⟨i0,i1,i2⟩:=hi;cbv)|(refine ag (O.ar .add Za i 1) ?_ ?_ ?_;focus (cbv;done))
 all_goals(subst hO hr hF;(try simp only[nc]at*);(try simp only[ah,SS,sa,az]at*);(try rw[db (by omega) (by omega)]))
 all_goals first
  | (show(_:List DV)=_
     first
      |exact cq (dM i2 i0 (by assumption) (show isSp os id i=true from by assumption)).symm
      |exact cq (eY i2 (by assumption)).symm
      |done)
  |omega
  |exact gj
  |(show(lk _ _).isSome=true;kernel_rfl)
  |exact bK
  |exact aZ i2 (ji (show isSp os id i=false from by assumption))
  |trace_state
abbrev W4:da:=ez (fun F f=>match f with|187=>bh F|239=>bc F|_=>fun _=>none) (by
 intro f;dsimp only;split;exact cB;exact cu;exact de)
def gQ:EC:=fun F=>fun
 |[.agg hl_,.one (.v (.int Za ad))]=>hL hl_ fun a0 a1 a2 a3 a4 a5 a6 a7 a8 a9 aA aB aC aD aE aF aG aH aI aJ aK aL aM aN=>(fun _=>Rw [tI,tI,tI,tI] a8/\a8.length<=1099511627776,[.j (F.obI a8 ad)])
 |_=>none
theorem DN:ec 74 gQ:=by
 intro _ _ _ h hp;dsimp only[gQ,F0,hL]at h;split at h;rotate_left;cases h;split at h<;>cases h
 rename_i ad _ a0 a1 a2 a3 a4 a5 a6 a7 a8 a9 aA aB aC aD aE aF aG aH aI aJ aK aL aM aN;refine cb W4 Tryz.func74 ?_
 intro O r F hO hr hF;cbv
 repeat' first|apply Zb|(apply bF<;>intro hb<;>cbv)
 all_goals(subst hO hr hF;(try simp only[nc]at*);(try simp only[ah,SS,sa,az]at*))
 all_goals first|exact hp|exact rfl|trivial|trace_state
def dI:EC:=fun F=>fun
 |[.agg hl_,.one (.v (.int Za pg))]=>hL hl_ fun a0 a1 a2 a3 a4 a5 a6 a7 a8 a9 aA aB aC aD aE aF aG aH aI aJ aK aL aM aN=>(fun _=>Rw [tI,tI,tI] a6/\a6.length<=1099511627776,[.j (F.spI a6 pg)])
 |_=>none
theorem BQ:ec 135 dI:=by
 intro _ _ _ h hp;dsimp only[dI,F0,hL]at h;split at h;rotate_left;cases h;split at h<;>cases h
 rename_i pg _ a0 a1 a2 a3 a4 a5 a6 a7 a8 a9 aA aB aC aD aE aF aG aH aI aJ aK aL aM aN;refine cb W4 Tryz.func135 ?_
 intro O r F hO hr hF;cbv
 repeat' first|apply Zb|(apply bF<;>intro hb<;>cbv)
 all_goals(subst hO hr hF;(try simp only[nc]at*);(try simp only[ah,SS,sa,az]at*))
 all_goals first|exact hp|exact rfl|trace_state
theorem DY:ec 177 gQ:=by
 intro _ _ _ h hp;dsimp only[gQ,F0,hL]at h;split at h;rotate_left;cases h;split at h<;>cases h
 rename_i ad _ a0 a1 a2 a3 a4 a5 a6 a7 a8 a9 aA aB aC aD aE aF aG aH aI aJ aK aL aM aN;obtain⟨hw,hn⟩:=hp;refine cb nB Tryz.func177 ?_
 intro O r F hO hr hF;cbv
 repeat' first|apply Zb|(apply bF<;>intro hb<;>cbv)|(refine⟨[1,2,5],[2],Int,fun i=>[.reg 5 (.j i)],fun i=>0<=i/\i<=((a8.length:Nat):Int)/\upto (cZ (ue a8 ad)) i,fun i=>(a8.length)-i.toNat,⟨0,?_,?_⟩,?_⟩;rotate_left;(focus (cbv;done));intro i hi;replace hi:0<=i/\i<=((a8.length:Nat):Int)/\upto (cZ (ue a8 ad)) i:=hi;obtain⟨i0,i1,i2⟩:=hi;cbv)|(refine ag (O.ar .add Za i 1) ?_ ?_ ?_;focus (cbv;done))
 all_goals(subst hO hr hF;(try simp only[nc]at*);(try simp only[ah,SS,sa,az]at*);(try rw[db (by omega) (by omega)]))
 all_goals first
  | (show(_:List DV)=_
     first
      |exact cq (dM i2 i0 (by assumption) (show ue a8 ad i=true from by assumption)).symm
      |exact cq (dM i2 i0 (by assumption) (show ue a8 ad i=true from tW (by assumption))).symm
      |exact cq (eY i2 (by assumption)).symm
      |done)
  |omega
  |exact gj
  |(show(lk _ _).isSome=true;kernel_rfl)
  |exact bK
  |exact aZ i2 (ji (show ue a8 ad i=false from by assumption))
  |exact aZ i2 (ji (show ue a8 ad i=false from wn (by assumption)))
  |exact⟨trivial,trivial⟩
  |trivial
  |trace_state
theorem j4:ec 176 dI:=by
 intro _ _ _ h hp;dsimp only[dI,F0,hL]at h;split at h;rotate_left;cases h;split at h<;>cases h
 rename_i pg _ a0 a1 a2 a3 a4 a5 a6 a7 a8 a9 aA aB aC aD aE aF aG aH aI aJ aK aL aM aN;obtain⟨hw,hn⟩:=hp;refine cb nB Tryz.func176 ?_
 intro O r F hO hr hF;cbv
 repeat' first|apply Zb|(apply bF<;>intro hb<;>cbv)|(refine⟨[1,2,5],[2],Int,fun i=>[.reg 5 (.j i)],fun i=>0<=i/\i<=((a6.length:Nat):Int)/\upto (cZ (isSp a6 pg)) i,fun i=>(a6.length)-i.toNat,⟨0,?_,?_⟩,?_⟩;rotate_left;(focus (cbv;done));intro i hi;replace hi:0<=i/\i<=((a6.length:Nat):Int)/\upto (cZ (isSp a6 pg)) i:=hi;obtain⟨i0,i1,i2⟩:=hi;cbv)|(refine ag (O.ar .add Za i 1) ?_ ?_ ?_;focus (cbv;done))
 all_goals(subst hO hr hF;(try simp only[nc]at*);(try simp only[ah,SS,sa,az]at*);(try rw[db (by omega) (by omega)]))
 all_goals first
  | (show(_:List DV)=_
     first
      |exact cq (dM i2 i0 (by assumption) (show isSp a6 pg i=true from tW (by assumption))).symm
      |exact cq (eY i2 (by assumption)).symm
      |done)
  |omega
  |exact gj
  |exact bK
  |exact aZ i2 (ji (show isSp a6 pg i=false from wn (by assumption)))
  |trace_state
def cM:EC:=fun F=>fun
 |[.agg [.s 2 es],.one (.v (.int Za f))]=>some (fun _=>Rw [tI,tI] es/\es.length<=1099511627776,[.one (.s 1 (F.pagesOn es f))])
 |_=>none
theorem lW:ec 315 cM:=by
 intro _ _ _ h hp;dsimp only[cM,F0]at h;split at h<;>cases h
 rename_i es f;obtain⟨hw,hlen⟩:=hp;refine cb nB Tryz.func315 ?_
 intro O r F hO hr hF;cbv
 repeat' first|apply Zb|(apply bF<;>intro hb<;>cbv)|(refine⟨[1,5,10,11,12],[5],Int×aa,fun s_=>match s_ with|(i,out)=>[.reg 12 (.j i),.reg 5 (.one (.vw 5 0 0 0 (O.ln out))),.leaf 5 0 ⟨0,0,none,.own (.s 1 out)⟩],fun s_=>match s_ with|(i,out)=>0<=i/\i<=(es.length:Int)/\out=yk es f i.toNat,fun s_=>match s_ with|(i,out)=>es.length-i.toNat,⟨(0,[]),?_,?_⟩,?_⟩;rotate_left;(focus (cbv;done));intro s_ hi;obtain⟨i,out⟩:=s_;replace hi:0<=i/\i<=(es.length:Int)/\out=yk es f i.toNat:=hi;obtain⟨i0,i1,i2⟩:=hi;cbv)|(refine ag (O.ar .add Za i 1,O.cat out (O.sub [[.i i]] 0 (O.ln [[.i i]]))) ?_ ?_ ?_;focus (cbv;done))|(refine ag (O.ar .add Za i 1,out) ?_ ?_ ?_;focus (cbv;done))
 all_goals exact agk
theorem mh:ec 331 cM:=by
 intro _ _ _ h hp;dsimp only[cM,F0]at h;split at h<;>cases h
 rename_i es f;obtain⟨hw,hlen⟩:=hp;refine cb nB Tryz.func331 ?_
 intro O r F hO hr hF;cbv
 repeat' first|apply Zb|(apply bF<;>intro hb<;>cbv)|(refine⟨[1,2,5,6],[2,5],Int×aa,fun s_=>match s_ with|(i,out)=>[.reg 6 (.j i),.reg 5 (.one (.vw 5 0 0 0 (O.ln out))),.leaf 5 0 ⟨0,0,none,.own (.s 1 out)⟩],fun s_=>match s_ with|(i,out)=>0<=i/\i<=(es.length:Int)/\out=yk es f i.toNat,fun s_=>match s_ with|(i,out)=>es.length-i.toNat,⟨(0,[]),?_,?_⟩,?_⟩;rotate_left;(focus (cbv;done));intro s_ hi;obtain⟨i,out⟩:=s_;replace hi:0<=i/\i<=(es.length:Int)/\out=yk es f i.toNat:=hi;obtain⟨i0,i1,i2⟩:=hi;cbv)|(refine ag (O.ar .add Za i 1,O.cat out (O.sub [[.i i]] 0 (O.ln [[.i i]]))) ?_ ?_ ?_;focus (cbv;done))|(refine ag (O.ar .add Za i 1,out) ?_ ?_ ?_;focus (cbv;done))
 all_goals exact agk
abbrev B1:da:=ez (fun F f=>match f with|41=>aj F|28=>aj F|_=>fun _=>none) (by
 intro f;dsimp only;split;exact bB;exact bE;exact de)
def bU:EC:=fun F=>fun
 |[.agg [.s 2 es],.one (.v (.int Za p))]=>some (fun _=>Rw [tI,tI] es,[.agg [.i (F.peM es p),.i (F.peF es p)]])
 |_=>none
theorem fm:ec 82 bU:=by
 intro _ _ _ h hp;dsimp only[bU,F0]at h;split at h<;>cases h
 rename_i es p;have hm:=hp.1;unfold maxLen at hm;have hsb:bO .sub Za (es.length:Int) 1=es.length-1:=dG (by omega);refine cb B1 Tryz.func82 ?_
 exact agl
theorem jG:ec 181 bU:=by
 intro _ _ _ h hp;dsimp only[bU,F0]at h;split at h<;>cases h
 rename_i es p;have hm:=hp.1;unfold maxLen at hm;have hsb:bO .sub Za (es.length:Int) 1=es.length-1:=dG (by omega);refine cb B1 Tryz.func181 ?_
 exact agl
abbrev B2:da:=ez (fun F f=>match f with|82=>bU F|315=>cM F|181=>bU F|331=>cM F|_=>fun _=>none) (by
 intro f;dsimp only;split;exact fm;exact lW;exact jG;exact mh;exact de)
def di:EC:=fun F=>fun
 |[.agg hl_,.one (.v (.int Za pg))]=>hL hl_ fun a0 a1 a2 a3 a4 a5 a6 a7 a8 a9 aA aB aC aD aE aF aG aH aI aJ aK aL aM aN=>(fun _=>Rw [tI,tI] a2/\a2.length<=1099511627776,[.one (.s 1 (F.fpg a2 pg))])
 |_=>none
theorem td:ec 229 di:=by
 intro _ _ _ h hp;dsimp only[di,F0,hL]at h;split at h;rotate_left;cases h;split at h<;>cases h
 rename_i pg _ a0 a1 a2 a3 a4 a5 a6 a7 a8 a9 aA aB aC aD aE aF aG aH aI aJ aK aL aM aN;obtain⟨hw,hn⟩:=hp;refine cb B2 Tryz.func229 ?_
 exact agt
theorem ny:ec 262 di:=by
 intro _ _ _ h hp;dsimp only[di,F0,hL]at h;split at h;rotate_left;cases h;split at h<;>cases h
 rename_i pg _ a0 a1 a2 a3 a4 a5 a6 a7 a8 a9 aA aB aC aD aE aF aG aH aI aJ aK aL aM aN;obtain⟨hw,hn⟩:=hp;refine cb B2 Tryz.func262 ?_
 exact agt
abbrev C1:da:=ez (fun F f=>match f with|41=>aj F|28=>aj F|_=>fun _=>none) (by
 intro f;dsimp only;split;exact bB;exact bE;exact de)
def d7:EC:=fun F=>fun
 |[.one (.v (.int Za b)),.one (.v (.int Za i))]=>some (fun _=>True,[.k (F.slB b i)])
 |_=>none
theorem sj:ec 321 d7:=by
 intro _ _ _ h hp;dsimp only[d7,F0]at h;split at h<;>cases h
 rename_i b i;refine cb C1 Tryz.func321 ?_
 exact agu
theorem so:ec 358 d7:=by
 intro _ _ _ h hp;dsimp only[d7,F0]at h;split at h<;>cases h
 rename_i b i;refine cb C1 Tryz.func358 ?_
 exact agu
abbrev C2:da:=ez (fun F f=>match f with|321=>d7 F|358=>d7 F|_=>fun _=>none) (by
 intro f;dsimp only;split;exact sj;exact so;exact de)
def cD:EC:=fun F=>fun
 |[.one (.v (.int Za b)),.one (.v (.int Za i))]=>some (fun _=>True,[.k (F.hsB b i)])
 |_=>none
theorem iK:ec 242 cD:=by
 intro _ _ _ h hp;dsimp only[cD,F0]at h;split at h<;>cases h
 rename_i b i;refine cb C2 Tryz.func242 ?_
 exact agn
theorem mg:ec 305 cD:=by
 intro _ _ _ h hp;dsimp only[cD,F0]at h;split at h<;>cases h
 rename_i b i;refine cb C2 Tryz.func305 ?_
 exact agn
end Go.V