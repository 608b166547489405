/- Contracts. -/
import Derived.Test.YtcodmgmliopheaaGreatS13
import Derived.Test.YtcodmgmliopheaaGreatHA
set_option linter.all false
namespace Go.V
open Go Go.Proofs
set_option maxRecDepth 1000000
set_option maxHeartbeats 8000000
theorem aU {x a b:Int}(hp:True):ap 91 [.j x,.j a,.j b] [.k (inR x a b)]:=by
 refine cb nB Tryz.func91 ?_
 intro O r F hO hr hF;cbv
 repeat' first|apply And.intro|(apply bi<;>intro hb<;>cbv)
 all_goals(subst hO hr hF;(try simp only[nc]at*);(try simp only[ai,SS,sa,az]at*))
 all_goals refine aj ?_
 ·exact eh (by rw[bE];simp only[SS];omega)
 ·exact(uA.2 (by omega)).symm
theorem bc {x a b:Int}(hp:True):ap 89 [.j x,.j a,.j b] [.k (inR x a b)]:=by
 refine cb nB Tryz.func89 ?_
 intro O r F hO hr hF;cbv
 repeat' first|apply And.intro|(apply bi<;>intro hb<;>cbv)
 all_goals(subst hO hr hF;(try simp only[nc]at*);(try simp only[ai,SS,sa,az]at*))
 all_goals refine aj ?_
 ·exact eh (by rw[bE];simp only[SS];omega)
 ·exact(uA.2 (by omega)).symm
namespace F4
structure aQ where
 inR:Int->Int->Int->Bool
abbrev F0 :aQ:=⟨inR⟩
def ct (F:aQ):CT:=fun f ds=>match f,ds with
 |91,[.one (.v (.int .i64 x)),.one (.v (.int .i64 a)),.one (.v (.int .i64 b))]=>some (fun _=>True,[.k (F.inR x a b)])
 |89,[.one (.v (.int .i64 x)),.one (.v (.int .i64 a)),.one (.v (.int .i64 b))]=>some (fun _=>True,[.k (F.inR x a b)])
 |_,_=>none
theorem ah :aR (ct F0):=by
 intro f ds pre res h hp;unfold ct at h;split at h<;>cases h
 exact aU hp;exact bc hp
abbrev B :cq:=tb ah
end F4
theorem dE {k:Int}(hp:True):ap 245 [.j k] [.k (inR k 0 3)]:=by
 refine cb F4.B Tryz.func245 ?_
 exact rT
namespace F5
structure aQ where
 inR:Int->Int->Int->Bool
abbrev F0 :aQ:=⟨inR⟩
def ct (F:aQ):CT:=fun f ds=>match f,ds with
 |245,[.one (.v (.int .i64 k))]=>some (fun _=>True,[.k (F.inR k 0 3)])
 |89,[.one (.v (.int .i64 x)),.one (.v (.int .i64 a)),.one (.v (.int .i64 b))]=>some (fun _=>True,[.k (F.inR x a b)])
 |_,_=>none
theorem ah :aR (ct F0):=by
 intro f ds pre res h hp;unfold ct at h;split at h<;>cases h
 exact dE hp;exact bc hp
abbrev B :cq:=tb ah
end F5
theorem cJ {k:Int}(hp:True):ap 114 [.j k] [.j (clsSz k)]:=by
 refine cb F5.B Tryz.func114 ?_
 intro O r F hO hr hF;cbv
 repeat' first|apply And.intro|(apply bi<;>intro hb<;>cbv)
 all_goals(subst hO hr hF;(try simp only[nc]at*);(try simp only[ai,SS,sa,az]at*))
 all_goals exact Tp
theorem dT {k:Int}(hp:True):ap 236 [.j k] [.j (clsSz k)]:=by
 refine cb F5.B Tryz.func236 ?_
 intro O r F hO hr hF;cbv
 repeat' first|apply And.intro|(apply bi<;>intro hb<;>cbv)
 all_goals(subst hO hr hF;(try simp only[nc]at*);(try simp only[ai,SS,sa,az]at*);(try rw[Ka (by assumption)]at*))
 all_goals exact Tp
namespace F6
structure aQ where
 inR:Int->Int->Int->Bool
 clsSz:Int->Int
abbrev F0 :aQ:=⟨inR,clsSz⟩
def ct (F:aQ):CT:=fun f ds=>match f,ds with
 |91,[.one (.v (.int .i64 x)),.one (.v (.int .i64 a)),.one (.v (.int .i64 b))]=>some (fun _=>True,[.k (F.inR x a b)])
 |89,[.one (.v (.int .i64 x)),.one (.v (.int .i64 a)),.one (.v (.int .i64 b))]=>some (fun _=>True,[.k (F.inR x a b)])
 |114,[.one (.v (.int .i64 k))]=>some (fun _=>True,[.j (F.clsSz k)])
 |_,_=>none
theorem ah :aR (ct F0):=by
 intro f ds pre res h hp;unfold ct at h;split at h<;>cases h
 exact aU hp;exact bc hp;exact cJ hp
abbrev B :cq:=tb ah
end F6
theorem sM {s:Int}(hp:True):ap 107 [.j s] [.j (clsOf s)]:=by
 refine cb F6.B Tryz.func107 ?_
 intro O r F hO hr hF;cbv
 repeat' first|apply And.intro|(apply bi<;>intro hb<;>cbv)|(refine⟨[0,3],[],Int,fun k=>[.reg 3 (.j k)],fun k=>0<=k/\k<=3/\(k=0\/clsSz (k-1)<s),fun k=>(3-k).toNat,⟨0,?_,?_⟩,?_⟩;rotate_left;(focus (cbv;done));intro k hk;replace hk:0<=k/\k<=3/\(k=0\/clsSz (k-1)<s):=hk;obtain⟨k0,k1,k2⟩:=hk;cbv)|(refine ab (O.ar .add .i64 k 1) ?_ ?_ ?_;focus (cbv;done))
 all_goals(subst hO hr hF;(try simp only[nc]at*);(try simp only[ai,SS,sa,az]at*))
 all_goals exact SY
theorem tE {s:Int}(hp:True):ap 232 [.j s] [.j (clsOf s)]:=by
 refine cb F6.B Tryz.func232 ?_
 intro O r F hO hr hF;cbv
 repeat' first|apply And.intro|(apply bi<;>intro hb<;>cbv)|(refine⟨[0,3],[],Int,fun k=>[.reg 3 (.j k)],fun k=>0<=k/\k<=3/\(k=0\/clsSz (k-1)<s),fun k=>(3-k).toNat,⟨0,?_,?_⟩,?_⟩;rotate_left;(focus (cbv;done));intro k hk;replace hk:0<=k/\k<=3/\(k=0\/clsSz (k-1)<s):=hk;obtain⟨k0,k1,k2⟩:=hk;cbv)|(refine ab (O.ar .add .i64 k 1) ?_ ?_ ?_;focus (cbv;done))
 all_goals(subst hO hr hF;(try simp only[nc]at*);(try simp only[ai,SS,sa,az]at*);(try rw[Ka (k:=k) (by rw[bE];omega)]at*);(try rw[J8 (k:=k) (by rw[bE];omega)]at*))
 all_goals exact SY
theorem XE {d0 d1 d2 d3 ad:Int}(hp:True):ap 240 [.agg [.i d0,.i d1,.i d2,.i d3],.ptr [.i ad]] [.k (eqB d1 ad)]:=by
 refine cb nB Tryz.func240 ?_
 intro O r F hO hr hF;cbv
 repeat' first|apply And.intro|(apply bi<;>intro hb<;>cbv)
 all_goals(subst hO hr hF;(try simp only[nc]at*);(try simp only[ai,SS,sa,az]at*))
 all_goals first
  | (show(_:List DV)=_
     first
      |exact aj (CB (by assumption)).symm
      |exact aj (Cz (by assumption)).symm
      |exact aj (eh (by unfold eqB;simp only[SS,decide_eq_true_eq]))
      |done)
  |trivial
  |trace_state
theorem qz {d0 d1 d2 pg:Int}(hp:True):ap 297 [.agg [.i d0,.i d1,.i d2],.ptr [.i pg]] [.k (eqB d0 pg)]:=by
 refine cb nB Tryz.func297 ?_
 intro O r F hO hr hF;cbv
 repeat' first|apply And.intro|(apply bi<;>intro hb<;>cbv)
 all_goals(subst hO hr hF;(try simp only[nc]at*);(try simp only[ai,SS,sa,az]at*))
 all_goals first
  | (show(_:List DV)=_
     first
      |exact aj (eh (by unfold eqB;simp only[SS,decide_eq_true_eq]))
      |done)
  |trace_state
namespace W3
structure aQ where
 eqB:Int->Int->Bool
abbrev F0 :aQ:=⟨eqB⟩
def ct (F:aQ):CT:=fun f ds=>match f,ds with
 |240,[.agg [.v (.int .i64 d0),.v (.int .i64 d1),.v (.int .i64 d2),.v (.int .i64 d3)],.ptr [.v (.int .i64 ad)]]=>some (fun _=>True,[.k (F.eqB d1 ad)])
 |297,[.agg [.v (.int .i64 d0),.v (.int .i64 d1),.v (.int .i64 d2)],.ptr [.v (.int .i64 pg)]]=>some (fun _=>True,[.k (F.eqB d0 pg)])
 |_,_=>none
theorem ah :aR (ct F0):=by
 intro f ds pre res h hp;unfold ct at h;split at h<;>cases h
 exact XE hp;exact qz hp
abbrev B :cq:=tb ah
end W3
theorem XD {os:aa}{id:Int}(hp:Rw [tI,tI,tI,tI] os/\os.length<=1099511627776):ap 239 [.one (.s 4 os),.fn 240 [[.i id]]] [.j (obI os id)]:=by
 obtain⟨hw,hn⟩:=hp;refine cb W3.B Tryz.func239 ?_
 intro O r F hO hr hF;cbv
 repeat' first|apply And.intro|(apply bi<;>intro hb<;>cbv)|(refine⟨[0,1,7,8],[0],Int,fun i=>[.reg 8 (.j i)],fun i=>0<=i/\i<=((os.length:Nat):Int)/\upto (co (Uu os id)) i,fun i=>(os.length)-i.toNat,⟨0,?_,?_⟩,?_⟩;rotate_left;(focus (cbv;done));intro i hi;replace hi:0<=i/\i<=((os.length:Nat):Int)/\upto (co (Uu os id)) i:=hi;obtain⟨i0,i1,i2⟩:=hi;cbv)|(refine ab (O.ar .add .i64 i 1) ?_ ?_ ?_;focus (cbv;done))
 all_goals(subst hO hr hF;(try simp only[nc]at*);(try simp only[ai,SS,sa,az]at*);(try rw[cp (by omega) (by omega)]))
 all_goals first
  | (show(_:List DV)=_
     first
      |exact cM (ed i2 i0 (by assumption) (show Uu os id i=true from by assumption)).symm
      |exact cM (ed i2 i0 (by assumption) (show Uu os id i=true from CB (by assumption))).symm
      |exact cM (dG i2 (by assumption)).symm
      |done)
  |omega
  |exact eQ
  |(show(lk _ _).isSome=true;kernel_rfl)
  |exact bj
  |exact aW i2 (lN (show Uu os id i=false from by assumption))
  |exact aW i2 (lN (show Uu os id i=false from Cz (by assumption)))
  |exact⟨trivial,trivial⟩
  |trivial
  |trace_state
theorem bZ {os:aa}{id:Int}(hp:Rw [tI,tI,tI] os/\os.length<=1099511627776):ap 296 [.one (.s 3 os),.fn 297 [[.i id]]] [.j (spI os id)]:=by
 obtain⟨hw,hn⟩:=hp;refine cb W3.B Tryz.func296 ?_
 intro O r F hO hr hF;cbv
 repeat' first|apply And.intro|(apply bi<;>intro hb<;>cbv)|(refine⟨[0,1,7,8],[0],Int,fun i=>[.reg 8 (.j i)],fun i=>0<=i/\i<=((os.length:Nat):Int)/\upto (co (isSp os id)) i,fun i=>(os.length)-i.toNat,⟨0,?_,?_⟩,?_⟩;rotate_left;(focus (cbv;done));intro i hi;replace hi:0<=i/\i<=((os.length:Nat):Int)/\upto (co (isSp os id)) i:=hi;obtain⟨i0,i1,i2⟩:=hi;cbv)|(refine ab (O.ar .add .i64 i 1) ?_ ?_ ?_;focus (cbv;done))
 all_goals(subst hO hr hF;(try simp only[nc]at*);(try simp only[ai,SS,sa,az]at*);(try rw[cp (by omega) (by omega)]))
 all_goals first
  | (show(_:List DV)=_
     first
      |exact cM (ed i2 i0 (by assumption) (show isSp os id i=true from by assumption)).symm
      |exact cM (dG i2 (by assumption)).symm
      |done)
  |omega
  |exact eQ
  |(show(lk _ _).isSome=true;kernel_rfl)
  |exact bj
  |exact aW i2 (lN (show isSp os id i=false from by assumption))
  |trace_state
namespace W4
structure aQ where
 obI:aa->Int->Int
 spI:aa->Int->Int
abbrev F0 :aQ:=⟨obI,spI⟩
def ct (F:aQ):CT:=fun f ds=>match f,ds with
 |239,[.one (.s 4 os),.fn 240 [[.v (.int .i64 id)]]]=>some (fun _=>Rw [tI,tI,tI,tI] os/\os.length<=1099511627776,[.j (F.obI os id)])
 |296,[.one (.s 3 os),.fn 297 [[.v (.int .i64 id)]]]=>some (fun _=>Rw [tI,tI,tI] os/\os.length<=1099511627776,[.j (F.spI os id)])
 |_,_=>none
theorem ah :aR (ct F0):=by
 intro f ds pre res h hp;unfold ct at h;split at h<;>cases h
 exact XD hp;exact bZ hp
abbrev B :cq:=tb ah
end W4
theorem vS {a0 a1 a2:aa}{a3:Int}{a4 a5 a6 a7 a8 a9 aA aB:aa}{aC:Int}{aD:aa}{aE aF aG aH:Int}{aI:Bool}{aJ aK:Int}{aL:aa}{aM aN pg:Int}(hp:Rw [tI,tI,tI] a6/\a6.length<=1099511627776):ap 177 [.agg (fU a0 a1 a2 a3 a4 a5 a6 a7 a8 a9 aA aB aC aD aE aF aG aH aI aJ aK aL aM aN),.j pg] [.j (spI a6 pg)]:=by
 refine cb W4.B Tryz.func177 ?_
 intro O r F hO hr hF;cbv
 repeat' first|apply And.intro|(apply bi<;>intro hb<;>cbv)
 all_goals(subst hO hr hF;(try simp only[nc]at*);(try simp only[ai,SS,sa,az]at*))
 all_goals first|exact hp|exact rfl|trace_state
theorem lh {a0 a1 a2:aa}{a3:Int}{a4 a5 a6 a7 a8 a9 aA aB:aa}{aC:Int}{aD:aa}{aE aF aG aH:Int}{aI:Bool}{aJ aK:Int}{aL:aa}{aM aN pg:Int}(hp:Rw [tI,tI,tI] a6/\a6.length<=1099511627776):ap 146 [.agg (fU a0 a1 a2 a3 a4 a5 a6 a7 a8 a9 aA aB aC aD aE aF aG aH aI aJ aK aL aM aN),.j pg] [.j (spI a6 pg)]:=by
 obtain⟨hw,hn⟩:=hp;refine cb nB Tryz.func146 ?_
 intro O r F hO hr hF;cbv
 repeat' first|apply And.intro|(apply bi<;>intro hb<;>cbv)|(refine⟨[1,2,5],[2],Int,fun i=>[.reg 5 (.j i)],fun i=>0<=i/\i<=((a6.length:Nat):Int)/\upto (co (isSp a6 pg)) i,fun i=>(a6.length)-i.toNat,⟨0,?_,?_⟩,?_⟩;rotate_left;(focus (cbv;done));intro i hi;replace hi:0<=i/\i<=((a6.length:Nat):Int)/\upto (co (isSp a6 pg)) i:=hi;obtain⟨i0,i1,i2⟩:=hi;cbv)|(refine ab (O.ar .add .i64 i 1) ?_ ?_ ?_;focus (cbv;done))
 all_goals(subst hO hr hF;(try simp only[nc]at*);(try simp only[ai,SS,sa,az]at*);(try rw[cp (by omega) (by omega)]))
 all_goals first
  | (show(_:List DV)=_
     first
      |exact cM (ed i2 i0 (by assumption) (show isSp a6 pg i=true from CB (by assumption))).symm
      |exact cM (dG i2 (by assumption)).symm
      |done)
  |omega
  |exact eQ
  |exact bj
  |exact aW i2 (lN (show isSp a6 pg i=false from Cz (by assumption)))
  |trace_state
end Go.V