/- Contracts. -/
import Derived.Test.YtpldpilhgjpkjaaGreatWFnv
set_option linter.all false
open Go
open And renaming intro->Zb
open IntKind renaming i64->Za
namespace Go.V
open Go Go.Proofs
set_option maxRecDepth 1000000
set_option maxHeartbeats 8000000
def ai:EC:=fun F=>fun
 |[.one (.v (.int Za x)),.one (.v (.int Za a)),.one (.v (.int Za b))]=>some (fun _=>True,[.k (F.inR x a b)])
 |_=>none
def aU:ec 33 ai:=by
 intro _ _ _ h hp;dsimp only[ai,F0]at h;split at h<;>cases h
 rename_i x a b;refine cb nB Tryz.func33 ?_
 intro O r F hO hr hF;cbv
 repeat' first|apply Zb|(apply bC<;>intro hb<;>cbv)
 all_goals(subst hO hr hF;(try simp only[nc]at*);(try simp only[ah,SS,sa,az]at*))
 all_goals refine aj ?_
 ·exact ij (by rw[bz];simp only[SS];omega)
 ·exact(uJ.2 Uc).symm
def bi:ec 92 ai:=by
 intro _ _ _ h hp;dsimp only[ai,F0]at h;split at h<;>cases h
 rename_i x a b;refine cb nB Tryz.func92 ?_
 intro O r F hO hr hF;cbv
 repeat' first|apply Zb|(apply bC<;>intro hb<;>cbv)
 all_goals(subst hO hr hF;(try simp only[nc]at*);(try simp only[ah,SS,sa,az]at*))
 all_goals refine aj ?_
 ·exact ij (by rw[bz];simp only[SS];omega)
 ·exact(uJ.2 Uc).symm
abbrev F4:cT:=dG (fun F f=>match f with|33=>ai F|92=>ai F|_=>fun _=>none) (by
 intro f;dsimp only;split;exact aU;exact bi;exact cX)
def ed:EC:=fun F=>fun
 |[.one (.v (.int Za k))]=>some (fun _=>True,[.k (F.inR k 0 3)])
 |_=>none
def gg:ec 157 ed:=by
 intro _ _ _ h hp;dsimp only[ed,F0]at h;split at h<;>cases h
 rename_i k;refine cb F4 Tryz.func157 ?_
 exact y8
abbrev F5:cT:=dG (fun F f=>match f with|157=>ed F|92=>ai F|_=>fun _=>none) (by
 intro f;dsimp only;split;exact gg;exact bi;exact cX)
def bL:EC:=fun F=>fun
 |[.one (.v (.int Za k))]=>some (fun _=>True,[.j (F.clsSz k)])
 |_=>none
def dU:ec 56 bL:=by
 intro _ _ _ h hp;dsimp only[bL,F0]at h;split at h<;>cases h
 rename_i k;refine cb F5 Tryz.func56 ?_
 intro O r F hO hr hF;cbv
 repeat' first|apply Zb|(apply bC<;>intro hb<;>cbv)
 all_goals(subst hO hr hF;(try simp only[nc]at*);(try simp only[ah,SS,sa,az]at*))
 all_goals exact agX
def gG:ec 43 bL:=by
 intro _ _ _ h hp;dsimp only[bL,F0]at h;split at h<;>cases h
 rename_i k;refine cb F5 Tryz.func43 ?_
 intro O r F hO hr hF;cbv
 repeat' first|apply Zb|(apply bC<;>intro hb<;>cbv)
 all_goals(subst hO hr hF;(try simp only[nc]at*);(try simp only[ah,SS,sa,az]at*);(try rw[R1 Ud]at*))
 all_goals exact agX
abbrev F6:cT:=dG (fun F f=>match f with|33=>ai F|92=>ai F|56=>bL F|_=>fun _=>none) (by
 intro f;dsimp only;split;exact aU;exact bi;exact dU;exact cX)
def fh:EC:=fun F=>fun
 |[.one (.v (.int Za s))]=>some (fun _=>True,[.j (F.clsOf s)])
 |_=>none
def zP:ec 38 fh:=by
 intro _ _ _ h hp;dsimp only[fh,F0]at h;split at h<;>cases h
 rename_i s;refine cb F6 Tryz.func38 ?_
 intro O r F hO hr hF;cbv
 repeat' first|apply Zb|(apply bC<;>intro hb<;>cbv)|(refine⟨[0,3],[],Int,fun k=>[.reg 3 (.j k)],fun k=>0<=k/\k<=3/\(k=0\/clsSz (k-1)<s),fun k=>(3-k).toNat,⟨0,?_,?_⟩,?_⟩;rotate_left;(focus (cbv;done));intro k hk;replace hk:0<=k/\k<=3/\(k=0\/clsSz (k-1)<s):=hk;obtain⟨k0,k1,k2⟩:=hk;cbv)|(refine af (O.ar .add Za k 1) ?_ ?_ ?_;focus (cbv;done))
 all_goals(subst hO hr hF;(try simp only[nc]at*);(try simp only[ah,SS,sa,az]at*))
 all_goals exact agG
def AB:ec 42 fh:=by
 intro _ _ _ h hp;dsimp only[fh,F0]at h;split at h<;>cases h
 rename_i s;refine cb F6 Tryz.func42 ?_
 intro O r F hO hr hF;cbv
 repeat' first|apply Zb|(apply bC<;>intro hb<;>cbv)|(refine⟨[0,3],[],Int,fun k=>[.reg 3 (.j k)],fun k=>0<=k/\k<=3/\(k=0\/clsSz (k-1)<s),fun k=>(3-k).toNat,⟨0,?_,?_⟩,?_⟩;rotate_left;(focus (cbv;done));intro k hk;replace hk:0<=k/\k<=3/\(k=0\/clsSz (k-1)<s):=hk;obtain⟨k0,k1,k2⟩:=hk;cbv)|(refine af (O.ar .add Za k 1) ?_ ?_ ?_;focus (cbv;done))
 all_goals(subst hO hr hF;(try simp only[nc]at*);(try simp only[ah,SS,sa,az]at*);(try rw[R1 (k:=k) (by rw[bz];omega)]at*);(try rw[RZ (k:=k) (by rw[bz];omega)]at*))
 all_goals exact agG
def kq:EC:=fun F=>fun
 |[.agg [.v (.int Za d0),.v (.int Za d1),.v (.int Za d2)],.ptr [.v (.int Za pg)]]=>some (fun _=>True,[.k (F.eqB d0 pg)])
 |_=>none
def xR:ec 180 kq:=by
 intro _ _ _ h hp;dsimp only[kq,F0]at h;split at h<;>cases h
 rename_i d0 d1 d2 pg;refine cb nB Tryz.func180 ?_
 intro O r F hO hr hF;cbv
 repeat' first|apply Zb|(apply bC<;>intro hb<;>cbv)
 all_goals(subst hO hr hF;(try simp only[nc]at*);(try simp only[ah,SS,sa,az]at*))
 all_goals first
  | (show(_:List DV)=_
     first
      |exact aj (ij (by unfold eqB;simp only[SS,VD]))
      |done)
  |trace_state
abbrev W3:cT:=dG (fun F f=>match f with|180=>kq F|_=>fun _=>none) (by
 intro f;dsimp only;split;exact xR;exact cX)
def bh:EC:=fun F=>fun
 |[.one (.s 3 os),.fn 180 [[.v (.int Za id)]]]=>some (fun _=>Rw [tI,tI,tI] os/\os.length<=1099511627776,[.j (F.spI os id)])
 |_=>none
def cy:ec 179 bh:=by
 intro _ _ _ h hp;dsimp only[bh,F0]at h;split at h<;>cases h
 rename_i os id;obtain⟨hw,hn⟩:=hp;refine cb W3 Tryz.func179 ?_
 intro O r F hO hr hF;cbv
 repeat' first|apply Zb|(apply bC<;>intro hb<;>cbv)|(refine⟨[0,1,7,8],[0],Int,fun i=>[.reg 8 (.j i)],fun i=>0<=i/\i<=((os.length:Nat):Int)/\upto (cY (isSp os id)) i,fun i=>(os.length)-i.toNat,⟨0,?_,?_⟩,?_⟩;rotate_left;(focus (cbv;done));intro i hi;replace hi:0<=i/\i<=((os.length:Nat):Int)/\upto (cY (isSp os id)) i:=hi;obtain⟨i0,i1,i2⟩:=hi;cbv)|(refine af (O.ar .add Za i 1) ?_ ?_ ?_;focus (cbv;done))
 all_goals(subst hO hr hF;(try simp only[nc]at*);(try simp only[ah,SS,sa,az]at*);(try rw[dd Uc Uc]))
 all_goals first
  | (show(_:List DV)=_
     first
      |exact dH (gx i2 i0 Ud (show isSp os id i=true from by assumption)).symm
      |exact dH (fK i2 Ud).symm
      |done)
  |omega
  |exact iB
  |(show(lk _ _).isSome=true;kernel_rfl)
  |exact bI
  |exact bu i2 (rE (show isSp os id i=false from by assumption))
  |trace_state
abbrev W4:cT:=dG (fun F f=>match f with|179=>bh F|_=>fun _=>none) (by
 intro f;dsimp only;split;exact cy;exact cX)
def eX:EC:=fun F=>fun
 |[.agg hl_,.one (.v (.int Za pg))]=>hL hl_ fun a0 a1 a2 a3 a4 a5 a6 a7 a8 a9 aA aB aC aD aE aF aG aH aI aJ aK aL aM aN=>(fun _=>Rw [tI,tI,tI] a6/\a6.length<=1099511627776,[.j (F.spI a6 pg)])
 |_=>none
def Co:ec 71 eX:=by
 intro _ _ _ h hp;dsimp only[eX,F0,hL]at h;split at h;rotate_left;cases h;split at h<;>cases h
 rename_i pg _ a0 a1 a2 a3 a4 a5 a6 a7 a8 a9 aA aB aC aD aE aF aG aH aI aJ aK aL aM aN;refine cb W4 Tryz.func71 ?_
 intro O r F hO hr hF;cbv
 repeat' first|apply Zb|(apply bC<;>intro hb<;>cbv)
 all_goals(subst hO hr hF;(try simp only[nc]at*);(try simp only[ah,SS,sa,az]at*))
 all_goals first|exact hp|exact rfl|trace_state
def sP:ec 213 eX:=by
 intro _ _ _ h hp;dsimp only[eX,F0,hL]at h;split at h;rotate_left;cases h;split at h<;>cases h
 rename_i pg _ a0 a1 a2 a3 a4 a5 a6 a7 a8 a9 aA aB aC aD aE aF aG aH aI aJ aK aL aM aN;obtain⟨hw,hn⟩:=hp;refine cb nB Tryz.func213 ?_
 intro O r F hO hr hF;cbv
 repeat' first|apply Zb|(apply bC<;>intro hb<;>cbv)|(refine⟨[1,2,5],[2],Int,fun i=>[.reg 5 (.j i)],fun i=>0<=i/\i<=((a6.length:Nat):Int)/\upto (cY (isSp a6 pg)) i,fun i=>(a6.length)-i.toNat,⟨0,?_,?_⟩,?_⟩;rotate_left;(focus (cbv;done));intro i hi;replace hi:0<=i/\i<=((a6.length:Nat):Int)/\upto (cY (isSp a6 pg)) i:=hi;obtain⟨i0,i1,i2⟩:=hi;cbv)|(refine af (O.ar .add Za i 1) ?_ ?_ ?_;focus (cbv;done))
 all_goals(subst hO hr hF;(try simp only[nc]at*);(try simp only[ah,SS,sa,az]at*);(try rw[dd Uc Uc]))
 all_goals first
  | (show(_:List DV)=_
     first
      |exact dH (gx i2 i0 Ud (show isSp a6 pg i=true from Gw Ud)).symm
      |exact dH (fK i2 Ud).symm
      |done)
  |omega
  |exact iB
  |exact bI
  |exact bu i2 (rE (show isSp a6 pg i=false from Gv Ud))
  |trace_state
def cN:EC:=fun F=>fun
 |[.agg [.s 2 es],.one (.v (.int Za f))]=>some (fun _=>Rw [tI,tI] es/\es.length<=1099511627776,[.one (.s 1 (F.pagesOn es f))])
 |_=>none
def lM:ec 277 cN:=by
 intro _ _ _ h hp;dsimp only[cN,F0]at h;split at h<;>cases h
 rename_i es f;obtain⟨hw,hlen⟩:=hp;refine cb nB Tryz.func277 ?_
 intro O r F hO hr hF;cbv
 repeat' first|apply Zb|(apply bC<;>intro hb<;>cbv)|(refine⟨[1,5,10,11,12],[5],Int×ab,fun s_=>match s_ with|(i,out)=>[.reg 12 (.j i),.reg 5 (.one (.vw 5 0 0 0 (O.ln out))),.leaf 5 0 ⟨0,0,none,.own (.s 1 out)⟩],fun s_=>match s_ with|(i,out)=>0<=i/\i<=(es.length:Int)/\out=vu es f i.toNat,fun s_=>match s_ with|(i,out)=>es.length-i.toNat,⟨(0,[]),?_,?_⟩,?_⟩;rotate_left;(focus (cbv;done));intro s_ hi;obtain⟨i,out⟩:=s_;replace hi:0<=i/\i<=(es.length:Int)/\out=vu es f i.toNat:=hi;obtain⟨i0,i1,i2⟩:=hi;cbv)|(refine af (O.ar .add Za i 1,O.cat out (O.sub [[.i i]] 0 (O.ln [[.i i]]))) ?_ ?_ ?_;focus (cbv;done))|(refine af (O.ar .add Za i 1,out) ?_ ?_ ?_;focus (cbv;done))
 all_goals exact agv
def lU:ec 355 cN:=by
 intro _ _ _ h hp;dsimp only[cN,F0]at h;split at h<;>cases h
 rename_i es f;obtain⟨hw,hlen⟩:=hp;refine cb nB Tryz.func355 ?_
 intro O r F hO hr hF;cbv
 repeat' first|apply Zb|(apply bC<;>intro hb<;>cbv)|(refine⟨[1,2,5,6],[2,5],Int×ab,fun s_=>match s_ with|(i,out)=>[.reg 6 (.j i),.reg 5 (.one (.vw 5 0 0 0 (O.ln out))),.leaf 5 0 ⟨0,0,none,.own (.s 1 out)⟩],fun s_=>match s_ with|(i,out)=>0<=i/\i<=(es.length:Int)/\out=vu es f i.toNat,fun s_=>match s_ with|(i,out)=>es.length-i.toNat,⟨(0,[]),?_,?_⟩,?_⟩;rotate_left;(focus (cbv;done));intro s_ hi;obtain⟨i,out⟩:=s_;replace hi:0<=i/\i<=(es.length:Int)/\out=vu es f i.toNat:=hi;obtain⟨i0,i1,i2⟩:=hi;cbv)|(refine af (O.ar .add Za i 1,O.cat out (O.sub [[.i i]] 0 (O.ln [[.i i]]))) ?_ ?_ ?_;focus (cbv;done))|(refine af (O.ar .add Za i 1,out) ?_ ?_ ?_;focus (cbv;done))
 all_goals exact agv
abbrev B1:cT:=dG (fun F f=>match f with|33=>ai F|92=>ai F|_=>fun _=>none) (by
 intro f;dsimp only;split;exact aU;exact bi;exact cX)
def bM:EC:=fun F=>fun
 |[.agg [.s 2 es],.one (.v (.int Za p))]=>some (fun _=>Rw [tI,tI] es,[.agg [.i (F.peM es p),.i (F.peF es p)]])
 |_=>none
def dV:ec 54 bM:=by
 intro _ _ _ h hp;dsimp only[bM,F0]at h;split at h<;>cases h
 rename_i es p;have hm:=hp.1;unfold maxLen at hm;have hsb:bK .sub Za (es.length:Int) 1=es.length-1:=dp Uc;refine cb B1 Tryz.func54 ?_
 exact agy
def gH:ec 359 bM:=by
 intro _ _ _ h hp;dsimp only[bM,F0]at h;split at h<;>cases h
 rename_i es p;have hm:=hp.1;unfold maxLen at hm;have hsb:bK .sub Za (es.length:Int) 1=es.length-1:=dp Uc;refine cb B1 Tryz.func359 ?_
 exact agy
abbrev B2:cT:=dG (fun F f=>match f with|54=>bM F|277=>cN F|359=>bM F|355=>cN F|_=>fun _=>none) (by
 intro f;dsimp only;split;exact dV;exact lM;exact gH;exact lU;exact cX)
def cz:EC:=fun F=>fun
 |[.agg hl_,.one (.v (.int Za pg))]=>hL hl_ fun a0 a1 a2 a3 a4 a5 a6 a7 a8 a9 aA aB aC aD aE aF aG aH aI aJ aK aL aM aN=>(fun _=>Rw [tI,tI] a2/\a2.length<=1099511627776,[.one (.s 1 (F.fpg a2 pg))])
 |_=>none
def np:ec 169 cz:=by
 intro _ _ _ h hp;dsimp only[cz,F0,hL]at h;split at h;rotate_left;cases h;split at h<;>cases h
 rename_i pg _ a0 a1 a2 a3 a4 a5 a6 a7 a8 a9 aA aB aC aD aE aF aG aH aI aJ aK aL aM aN;obtain⟨hw,hn⟩:=hp;refine cb B2 Tryz.func169 ?_
 exact agH
def iF:ec 299 cz:=by
 intro _ _ _ h hp;dsimp only[cz,F0,hL]at h;split at h;rotate_left;cases h;split at h<;>cases h
 rename_i pg _ a0 a1 a2 a3 a4 a5 a6 a7 a8 a9 aA aB aC aD aE aF aG aH aI aJ aK aL aM aN;obtain⟨hw,hn⟩:=hp;refine cb B2 Tryz.func299 ?_
 exact agH
def fE:EC:=fun F=>fun
 |[.one (.s 1 l),.one (.v (.int Za x))]=>some (fun _=>Rw [tI] l/\l.length<=1099511627776,[.j (F.idxI l x)])
 |_=>none
def pB:ec 380 fE:=by
 intro _ _ _ h hp;dsimp only[fE,F0]at h;split at h<;>cases h
 rename_i l x;obtain⟨hw,hn⟩:=hp;refine cb nB Tryz.func380 ?_
 intro O r F hO hr hF;cbv
 repeat' first|apply Zb|(apply bC<;>intro hb<;>cbv)|(refine⟨[0,1,7,8],[0],Int,fun i=>[.reg 8 (.j i)],fun i=>0<=i/\i<=((l.length:Nat):Int)/\upto (cY (LD l x)) i,fun i=>(l.length)-i.toNat,⟨0,?_,?_⟩,?_⟩;rotate_left;(focus (cbv;done));intro i hi;replace hi:0<=i/\i<=((l.length:Nat):Int)/\upto (cY (LD l x)) i:=hi;obtain⟨i0,i1,i2⟩:=hi;cbv)|(refine af (O.ar .add Za i 1) ?_ ?_ ?_;focus (cbv;done))
 all_goals(subst hO hr hF;(try simp only[nc]at*);(try simp only[ah,SS,sa,az]at*);(try rw[dd Uc Uc]))
 all_goals first
  | (show(_:List DV)=_
     first
      |exact dH (gx i2 i0 Ud (show LD l x i=true from Gw Ud)).symm
      |exact dH (fK i2 Ud).symm
      |done)
  |omega
  |exact iB
  |exact bI
  |exact bu i2 (rE (show LD l x i=false from Gv Ud))
  |trace_state
abbrev B3:cT:=dG (fun F f=>match f with|380=>fE F|_=>fun _=>none) (by
 intro f;dsimp only;split;exact pB;exact cX)
def ez:EC:=fun F=>fun
 |[.one (.s 1 l),.one (.v (.int Za x))]=>some (fun _=>Rw [tI] l/\l.length<=1099511627776,[.k (F.hasB l x)])
 |_=>none
def mY:ec 329 ez:=by
 intro _ _ _ h hp;dsimp only[ez,F0]at h;split at h<;>cases h
 rename_i l x;refine cb B3 Tryz.func329 ?_
 intro O r F hO hr hF;cbv
 repeat' first|apply Zb|(apply bC<;>intro hb<;>cbv)
 all_goals(subst hO hr hF;(try simp only[nc]at*);(try simp only[ah,SS,sa,az]at*))
 all_goals first
  | (show(_:List DV)=_
     first
      |exact aj (show cM .geq (idxI l x) 0=decide (0<=idxI l x)from rfl)
      |done)
  |exact hp
  |trace_state
abbrev C1:cT:=dG (fun F f=>match f with|33=>ai F|92=>ai F|_=>fun _=>none) (by
 intro f;dsimp only;split;exact aU;exact bi;exact cX)
def fT:EC:=fun F=>fun
 |[.one (.v (.int Za b)),.one (.v (.int Za i))]=>some (fun _=>True,[.k (F.slB b i)])
 |_=>none
def Cq:ec 331 fT:=by
 intro _ _ _ h hp;dsimp only[fT,F0]at h;split at h<;>cases h
 rename_i b i;refine cb C1 Tryz.func331 ?_
 exact agI
def CS:ec 396 fT:=by
 intro _ _ _ h hp;dsimp only[fT,F0]at h;split at h<;>cases h
 rename_i b i;refine cb C1 Tryz.func396 ?_
 exact agI
abbrev C2:cT:=dG (fun F f=>match f with|331=>fT F|396=>fT F|_=>fun _=>none) (by
 intro f;dsimp only;split;exact Cq;exact CS;exact cX)
def cD:EC:=fun F=>fun
 |[.one (.v (.int Za b)),.one (.v (.int Za i))]=>some (fun _=>True,[.k (F.hsB b i)])
 |_=>none
def iE:ec 273 cD:=by
 intro _ _ _ h hp;dsimp only[cD,F0]at h;split at h<;>cases h
 rename_i b i;refine cb C2 Tryz.func273 ?_
 exact agB
def lT:ec 361 cD:=by
 intro _ _ _ h hp;dsimp only[cD,F0]at h;split at h<;>cases h
 rename_i b i;refine cb C2 Tryz.func361 ?_
 exact agB
abbrev C3:cT:=dG (fun F f=>match f with|273=>cD F|361=>cD F|_=>fun _=>none) (by
 intro f;dsimp only;split;exact iE;exact lT;exact cX)
def dy:EC:=fun F=>fun
 |[.one (.v (.int Za b))]=>some (fun _=>True,[.j (F.ctI b)])
 |_=>none
def tK:ec 286 dy:=by
 intro _ _ _ h hp;dsimp only[dy,F0]at h;split at h<;>cases h
 rename_i b;refine cb C3 Tryz.func286 ?_
 exact agn
def uk:ec 367 dy:=by
 intro _ _ _ h hp;dsimp only[dy,F0]at h;split at h<;>cases h
 rename_i b;refine cb C3 Tryz.func367 ?_
 exact agn
abbrev C4:cT:=dG (fun F f=>match f with|286=>dy F|169=>cz F|367=>dy F|299=>cz F|_=>fun _=>none) (by
 intro f;dsimp only;split;exact tK;exact np;exact uk;exact iF;exact cX)
def dW:EC:=fun F=>fun
 |[.agg hl_]=>hL hl_ fun a0 a1 a2 a3 a4 a5 a6 a7 a8 a9 aA aB aC aD aE aF aG aH aI aJ aK aL aM aN=>(fun _=>Rw [tI,tI] a2/\Rw [tI,tI,tI] a6/\a2.length<=1099511627776/\a6.length<=1099511627776,[.one (.s 3 (F.msS a2 a6))])
 |_=>none
def vE:ec 184 dW:=by
 intro _ _ _ h hp;dsimp only[dW,F0,hL]at h;split at h;rotate_left;cases h;split at h<;>cases h
 rename_i a0 a1 a2 a3 a4 a5 a6 a7 a8 a9 aA aB aC aD aE aF aG aH aI aJ aK aL aM aN;obtain⟨he,hw,hm,hn⟩:=hp;refine cb C4 Tryz.func184 ?_
 intro O r F hO hr hF;cbv
 repeat' first|apply Zb|(apply bC<;>intro hb<;>cbv)|(refine⟨[1,3,8,9,10],[1,3],Int×ab,fun s_=>match s_ with|(i,out)=>[.reg 10 (.j i),.reg 3 (.one (.vw 3 0 0 0 (O.ln out))),.leaf 3 0 ⟨0,0,none,.own (.s 3 out)⟩],fun s_=>match s_ with|(i,out)=>0<=i/\i<=(a6.length:Int)/\out=zw a2 a6 i.toNat,fun s_=>match s_ with|(i,out)=>a6.length-i.toNat,⟨(0,[]),?_,?_⟩,?_⟩;rotate_left;(focus (cbv;done));intro s_ hi;obtain⟨i,out⟩:=s_;replace hi:0<=i/\i<=(a6.length:Int)/\out=zw a2 a6 i.toNat:=hi;obtain⟨i0,i1,i2⟩:=hi;cbv)|(refine af (O.ar .add Za i 1,O.cat out (O.sub [[.i (O.gi a6 i 0),.i (O.gi a6 i 1),.i (O.gi a6 i 2)]] 0 (O.ln [[.i (O.gi a6 i 0),.i (O.gi a6 i 1),.i (O.gi a6 i 2)]]))) ?_ ?_ ?_;focus (cbv;done))|(refine af (O.ar .add Za i 1,out) ?_ ?_ ?_;focus (cbv;done))
 all_goals exact agr
def vY:ec 310 dW:=by
 intro _ _ _ h hp;dsimp only[dW,F0,hL]at h;split at h;rotate_left;cases h;split at h<;>cases h
 rename_i a0 a1 a2 a3 a4 a5 a6 a7 a8 a9 aA aB aC aD aE aF aG aH aI aJ aK aL aM aN;obtain⟨he,hw,hm,hn⟩:=hp;refine cb C4 Tryz.func310 ?_
 intro O r F hO hr hF;cbv
 repeat' first|apply Zb|(apply bC<;>intro hb<;>cbv)|(refine⟨[1,3,4],[1,3],Int×ab,fun s_=>match s_ with|(i,out)=>[.reg 4 (.j i),.reg 3 (.one (.vw 3 0 0 0 (O.ln out))),.leaf 3 0 ⟨0,0,none,.own (.s 3 out)⟩],fun s_=>match s_ with|(i,out)=>0<=i/\i<=(a6.length:Int)/\out=zw a2 a6 i.toNat,fun s_=>match s_ with|(i,out)=>a6.length-i.toNat,⟨(0,[]),?_,?_⟩,?_⟩;rotate_left;(focus (cbv;done));intro s_ hi;obtain⟨i,out⟩:=s_;replace hi:0<=i/\i<=(a6.length:Int)/\out=zw a2 a6 i.toNat:=hi;obtain⟨i0,i1,i2⟩:=hi;cbv)|(refine af (O.ar .add Za i 1,O.cat out (O.sub [[.i (O.gi a6 i 0),.i (O.gi a6 i 1),.i (O.gi a6 i 2)]] 0 (O.ln [[.i (O.gi a6 i 0),.i (O.gi a6 i 1),.i (O.gi a6 i 2)]]))) ?_ ?_ ?_;focus (cbv;done))|(refine af (O.ar .add Za i 1,out) ?_ ?_ ?_;focus (cbv;done))
 all_goals exact agr
end Go.V