/- Contracts. -/
import Derived.Test.YtcodmgmliopheaaGreatS13
import Derived.Test.YtcodmgmliopheaaGreatHA
set_option linter.all false
open Go
open And renaming intro->AT
namespace Go.V
open Go Go.Proofs
set_option maxRecDepth 1000000
set_option maxHeartbeats 8000000
theorem bc {x a b:Int}(hp:True):aw 91 [.j x,.j a,.j b] [.k (inR x a b)]:=by
 refine cb nB Tryz.func91 ?_
 intro O r F hO hr hF;cbv
 repeat' first|apply AT|(apply bi<;>intro hb<;>cbv)
 all_goals(subst hO hr hF;(try simp only[nc]at*);(try simp only[ah,SS,sa,az]at*))
 all_goals refine ai ?_
 ·exact eA (by rw[bH];simp only[SS];omega)
 ·exact(nR.2 (by omega)).symm
theorem be {x a b:Int}(hp:True):aw 89 [.j x,.j a,.j b] [.k (inR x a b)]:=by
 refine cb nB Tryz.func89 ?_
 intro O r F hO hr hF;cbv
 repeat' first|apply AT|(apply bi<;>intro hb<;>cbv)
 all_goals(subst hO hr hF;(try simp only[nc]at*);(try simp only[ah,SS,sa,az]at*))
 all_goals refine ai ?_
 ·exact eA (by rw[bH];simp only[SS];omega)
 ·exact(nR.2 (by omega)).symm
namespace F4
structure aQ where
 inR:Int->Int->Int->Bool
abbrev F0 :aQ:=⟨inR⟩
def ct (F:aQ):CT:=fun f ds=>match f,ds with
 |91,[.one (.v (.int .i64 x)),.one (.v (.int .i64 a)),.one (.v (.int .i64 b))]=>some (fun _=>True,[.k (F.inR x a b)])
 |89,[.one (.v (.int .i64 x)),.one (.v (.int .i64 a)),.one (.v (.int .i64 b))]=>some (fun _=>True,[.k (F.inR x a b)])
 |_,_=>none
theorem aj :aR (ct F0):=by
 intro f ds pre res h hp;unfold ct at h;split at h<;>cases h
 exact bc hp;exact be hp
abbrev B :cy:=tb aj
end F4
theorem dO {k:Int}(hp:True):aw 245 [.j k] [.k (inR k 0 3)]:=by
 refine cb F4.B Tryz.func245 ?_
 exact su
namespace F5
structure aQ where
 inR:Int->Int->Int->Bool
abbrev F0 :aQ:=⟨inR⟩
def ct (F:aQ):CT:=fun f ds=>match f,ds with
 |245,[.one (.v (.int .i64 k))]=>some (fun _=>True,[.k (F.inR k 0 3)])
 |89,[.one (.v (.int .i64 x)),.one (.v (.int .i64 a)),.one (.v (.int .i64 b))]=>some (fun _=>True,[.k (F.inR x a b)])
 |_,_=>none
theorem aj :aR (ct F0):=by
 intro f ds pre res h hp;unfold ct at h;split at h<;>cases h
 exact dO hp;exact be hp
abbrev B :cy:=tb aj
end F5
theorem dq {k:Int}(hp:True):aw 114 [.j k] [.j (clsSz k)]:=by
 refine cb F5.B Tryz.func114 ?_
 intro O r F hO hr hF;cbv
 repeat' first|apply AT|(apply bi<;>intro hb<;>cbv)
 all_goals(subst hO hr hF;(try simp only[nc]at*);(try simp only[ah,SS,sa,az]at*))
 all_goals exact RE
theorem fj {k:Int}(hp:True):aw 236 [.j k] [.j (clsSz k)]:=by
 refine cb F5.B Tryz.func236 ?_
 intro O r F hO hr hF;cbv
 repeat' first|apply AT|(apply bi<;>intro hb<;>cbv)
 all_goals(subst hO hr hF;(try simp only[nc]at*);(try simp only[ah,SS,sa,az]at*);(try rw[JI (by assumption)]at*))
 all_goals exact RE
namespace F6
structure aQ where
 inR:Int->Int->Int->Bool
 clsSz:Int->Int
abbrev F0 :aQ:=⟨inR,clsSz⟩
def ct (F:aQ):CT:=fun f ds=>match f,ds with
 |91,[.one (.v (.int .i64 x)),.one (.v (.int .i64 a)),.one (.v (.int .i64 b))]=>some (fun _=>True,[.k (F.inR x a b)])
 |89,[.one (.v (.int .i64 x)),.one (.v (.int .i64 a)),.one (.v (.int .i64 b))]=>some (fun _=>True,[.k (F.inR x a b)])
 |114,[.one (.v (.int .i64 k))]=>some (fun _=>True,[.j (F.clsSz k)])
 |_,_=>none
theorem aj :aR (ct F0):=by
 intro f ds pre res h hp;unfold ct at h;split at h<;>cases h
 exact bc hp;exact be hp;exact dq hp
abbrev B :cy:=tb aj
end F6
theorem sZ {s:Int}(hp:True):aw 107 [.j s] [.j (clsOf s)]:=by
 refine cb F6.B Tryz.func107 ?_
 intro O r F hO hr hF;cbv
 repeat' first|apply AT|(apply bi<;>intro hb<;>cbv)|(refine⟨[0,3],[],Int,fun k=>[.reg 3 (.j k)],fun k=>0<=k/\k<=3/\(k=0\/clsSz (k-1)<s),fun k=>(3-k).toNat,⟨0,?_,?_⟩,?_⟩;rotate_left;(focus (cbv;done));intro k hk;replace hk:0<=k/\k<=3/\(k=0\/clsSz (k-1)<s):=hk;obtain⟨k0,k1,k2⟩:=hk;cbv)|(refine ab (O.ar .add .i64 k 1) ?_ ?_ ?_;focus (cbv;done))
 all_goals(subst hO hr hF;(try simp only[nc]at*);(try simp only[ah,SS,sa,az]at*))
 all_goals exact Rl
theorem tU {s:Int}(hp:True):aw 232 [.j s] [.j (clsOf s)]:=by
 refine cb F6.B Tryz.func232 ?_
 intro O r F hO hr hF;cbv
 repeat' first|apply AT|(apply bi<;>intro hb<;>cbv)|(refine⟨[0,3],[],Int,fun k=>[.reg 3 (.j k)],fun k=>0<=k/\k<=3/\(k=0\/clsSz (k-1)<s),fun k=>(3-k).toNat,⟨0,?_,?_⟩,?_⟩;rotate_left;(focus (cbv;done));intro k hk;replace hk:0<=k/\k<=3/\(k=0\/clsSz (k-1)<s):=hk;obtain⟨k0,k1,k2⟩:=hk;cbv)|(refine ab (O.ar .add .i64 k 1) ?_ ?_ ?_;focus (cbv;done))
 all_goals(subst hO hr hF;(try simp only[nc]at*);(try simp only[ah,SS,sa,az]at*);(try rw[JI (k:=k) (by rw[bH];omega)]at*);(try rw[JG (k:=k) (by rw[bH];omega)]at*))
 all_goals exact Rl
theorem s8 {d0 d1 d2 d3 ad:Int}(hp:True):aw 240 [.agg [.i d0,.i d1,.i d2,.i d3],.ptr [.i ad]] [.k (eqB d1 ad)]:=by
 refine cb nB Tryz.func240 ?_
 intro O r F hO hr hF;cbv
 repeat' first|apply AT|(apply bi<;>intro hb<;>cbv)
 all_goals(subst hO hr hF;(try simp only[nc]at*);(try simp only[ah,SS,sa,az]at*))
 all_goals first
  | (show(_:List DV)=_
     first
      |exact ai (uE (by assumption)).symm
      |exact ai (uD (by assumption)).symm
      |exact ai (eA (by unfold eqB;simp only[SS,decide_eq_true_eq]))
      |done)
  |trivial
  |trace_state
theorem qP {d0 d1 d2 pg:Int}(hp:True):aw 297 [.agg [.i d0,.i d1,.i d2],.ptr [.i pg]] [.k (eqB d0 pg)]:=by
 refine cb nB Tryz.func297 ?_
 intro O r F hO hr hF;cbv
 repeat' first|apply AT|(apply bi<;>intro hb<;>cbv)
 all_goals(subst hO hr hF;(try simp only[nc]at*);(try simp only[ah,SS,sa,az]at*))
 all_goals first
  | (show(_:List DV)=_
     first
      |exact ai (eA (by unfold eqB;simp only[SS,decide_eq_true_eq]))
      |done)
  |trace_state
namespace W3
structure aQ where
 eqB:Int->Int->Bool
abbrev F0 :aQ:=⟨eqB⟩
def ct (F:aQ):CT:=fun f ds=>match f,ds with
 |240,[.agg [.v (.int .i64 d0),.v (.int .i64 d1),.v (.int .i64 d2),.v (.int .i64 d3)],.ptr [.v (.int .i64 ad)]]=>some (fun _=>True,[.k (F.eqB d1 ad)])
 |297,[.agg [.v (.int .i64 d0),.v (.int .i64 d1),.v (.int .i64 d2)],.ptr [.v (.int .i64 pg)]]=>some (fun _=>True,[.k (F.eqB d0 pg)])
 |_,_=>none
theorem aj :aR (ct F0):=by
 intro f ds pre res h hp;unfold ct at h;split at h<;>cases h
 exact s8 hp;exact qP hp
abbrev B :cy:=tb aj
end W3
theorem bY {os:aa}{id:Int}(hp:Rw [tI,tI,tI,tI] os/\os.length<=1099511627776):aw 239 [.one (.s 4 os),.fn 240 [[.i id]]] [.j (obI os id)]:=by
 obtain⟨hw,hn⟩:=hp;refine cb W3.B Tryz.func239 ?_
 intro O r F hO hr hF;cbv
 repeat' first|apply AT|(apply bi<;>intro hb<;>cbv)|(refine⟨[0,1,7,8],[0],Int,fun i=>[.reg 8 (.j i)],fun i=>0<=i/\i<=((os.length:Nat):Int)/\upto (cp (B4 os id)) i,fun i=>(os.length)-i.toNat,⟨0,?_,?_⟩,?_⟩;rotate_left;(focus (cbv;done));intro i hi;replace hi:0<=i/\i<=((os.length:Nat):Int)/\upto (cp (B4 os id)) i:=hi;obtain⟨i0,i1,i2⟩:=hi;cbv)|(refine ab (O.ar .add .i64 i 1) ?_ ?_ ?_;focus (cbv;done))
 all_goals(subst hO hr hF;(try simp only[nc]at*);(try simp only[ah,SS,sa,az]at*);(try rw[cE (by omega) (by omega)]))
 all_goals first
  | (show(_:List DV)=_
     first
      |exact cT (dD i2 i0 (by assumption) (show B4 os id i=true from by assumption)).symm
      |exact cT (dD i2 i0 (by assumption) (show B4 os id i=true from uE (by assumption))).symm
      |exact cT (dE i2 (by assumption)).symm
      |done)
  |omega
  |exact fe
  |(show(lk _ _).isSome=true;kernel_rfl)
  |exact bu
  |exact aY i2 (jr (show B4 os id i=false from by assumption))
  |exact aY i2 (jr (show B4 os id i=false from uD (by assumption)))
  |exact⟨trivial,trivial⟩
  |trivial
  |trace_state
theorem bX {os:aa}{id:Int}(hp:Rw [tI,tI,tI] os/\os.length<=1099511627776):aw 296 [.one (.s 3 os),.fn 297 [[.i id]]] [.j (spI os id)]:=by
 obtain⟨hw,hn⟩:=hp;refine cb W3.B Tryz.func296 ?_
 intro O r F hO hr hF;cbv
 repeat' first|apply AT|(apply bi<;>intro hb<;>cbv)|(refine⟨[0,1,7,8],[0],Int,fun i=>[.reg 8 (.j i)],fun i=>0<=i/\i<=((os.length:Nat):Int)/\upto (cp (isSp os id)) i,fun i=>(os.length)-i.toNat,⟨0,?_,?_⟩,?_⟩;rotate_left;(focus (cbv;done));intro i hi;replace hi:0<=i/\i<=((os.length:Nat):Int)/\upto (cp (isSp os id)) i:=hi;obtain⟨i0,i1,i2⟩:=hi;cbv)|(refine ab (O.ar .add .i64 i 1) ?_ ?_ ?_;focus (cbv;done))
 all_goals(subst hO hr hF;(try simp only[nc]at*);(try simp only[ah,SS,sa,az]at*);(try rw[cE (by omega) (by omega)]))
 all_goals first
  | (show(_:List DV)=_
     first
      |exact cT (dD i2 i0 (by assumption) (show isSp os id i=true from by assumption)).symm
      |exact cT (dE i2 (by assumption)).symm
      |done)
  |omega
  |exact fe
  |(show(lk _ _).isSome=true;kernel_rfl)
  |exact bu
  |exact aY i2 (jr (show isSp os id i=false from by assumption))
  |trace_state
namespace W4
structure aQ where
 obI:aa->Int->Int
 spI:aa->Int->Int
abbrev F0 :aQ:=⟨obI,spI⟩
def ct (F:aQ):CT:=fun f ds=>match f,ds with
 |239,[.one (.s 4 os),.fn 240 [[.v (.int .i64 id)]]]=>some (fun _=>Rw [tI,tI,tI,tI] os/\os.length<=1099511627776,[.j (F.obI os id)])
 |296,[.one (.s 3 os),.fn 297 [[.v (.int .i64 id)]]]=>some (fun _=>Rw [tI,tI,tI] os/\os.length<=1099511627776,[.j (F.spI os id)])
 |_,_=>none
theorem aj :aR (ct F0):=by
 intro f ds pre res h hp;unfold ct at h;split at h<;>cases h
 exact bY hp;exact bX hp
abbrev B :cy:=tb aj
end W4
theorem wo {a0 a1 a2:aa}{a3:Int}{a4 a5 a6 a7 a8 a9 aA aB:aa}{aC:Int}{aD:aa}{aE aF aG aH:Int}{aI:Bool}{aJ aK:Int}{aL:aa}{aM aN pg:Int}(hp:Rw [tI,tI,tI] a6/\a6.length<=1099511627776):aw 177 [.agg (ji a0 a1 a2 a3 a4 a5 a6 a7 a8 a9 aA aB aC aD aE aF aG aH aI aJ aK aL aM aN),.j pg] [.j (spI a6 pg)]:=by
 refine cb W4.B Tryz.func177 ?_
 intro O r F hO hr hF;cbv
 repeat' first|apply AT|(apply bi<;>intro hb<;>cbv)
 all_goals(subst hO hr hF;(try simp only[nc]at*);(try simp only[ah,SS,sa,az]at*))
 all_goals first|exact hp|exact rfl|trace_state
theorem lT {a0 a1 a2:aa}{a3:Int}{a4 a5 a6 a7 a8 a9 aA aB:aa}{aC:Int}{aD:aa}{aE aF aG aH:Int}{aI:Bool}{aJ aK:Int}{aL:aa}{aM aN pg:Int}(hp:Rw [tI,tI,tI] a6/\a6.length<=1099511627776):aw 146 [.agg (ji a0 a1 a2 a3 a4 a5 a6 a7 a8 a9 aA aB aC aD aE aF aG aH aI aJ aK aL aM aN),.j pg] [.j (spI a6 pg)]:=by
 obtain⟨hw,hn⟩:=hp;refine cb nB Tryz.func146 ?_
 intro O r F hO hr hF;cbv
 repeat' first|apply AT|(apply bi<;>intro hb<;>cbv)|(refine⟨[1,2,5],[2],Int,fun i=>[.reg 5 (.j i)],fun i=>0<=i/\i<=((a6.length:Nat):Int)/\upto (cp (isSp a6 pg)) i,fun i=>(a6.length)-i.toNat,⟨0,?_,?_⟩,?_⟩;rotate_left;(focus (cbv;done));intro i hi;replace hi:0<=i/\i<=((a6.length:Nat):Int)/\upto (cp (isSp a6 pg)) i:=hi;obtain⟨i0,i1,i2⟩:=hi;cbv)|(refine ab (O.ar .add .i64 i 1) ?_ ?_ ?_;focus (cbv;done))
 all_goals(subst hO hr hF;(try simp only[nc]at*);(try simp only[ah,SS,sa,az]at*);(try rw[cE (by omega) (by omega)]))
 all_goals first
  | (show(_:List DV)=_
     first
      |exact cT (dD i2 i0 (by assumption) (show isSp a6 pg i=true from uE (by assumption))).symm
      |exact cT (dE i2 (by assumption)).symm
      |done)
  |omega
  |exact fe
  |exact bu
  |exact aY i2 (jr (show isSp a6 pg i=false from uD (by assumption)))
  |trace_state
end Go.V