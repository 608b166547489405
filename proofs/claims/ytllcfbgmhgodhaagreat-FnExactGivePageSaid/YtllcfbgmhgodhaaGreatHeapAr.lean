/- Contracts. -/
import Derived.Test.YtllcfbgmhgodhaaGreatS11
import Derived.Test.YtllcfbgmhgodhaaGreatHA
set_option linter.all false
namespace Go.V
open Go Go.Proofs
set_option maxRecDepth 1000000
set_option maxHeartbeats 8000000
theorem aZ {x a b:Int}(hp:True):au 105 [.j x,.j a,.j b] [.k (inR x a b)]:=by
 refine cb nB Tryz.func105 ?_
 intro O r F hO hr hF;cbv
 repeat' first|apply And.intro|(apply be<;>intro hb<;>cbv)
 all_goals(subst hO hr hF;(try simp only[nc]at*);(try simp only[aj,SS,sa,az]at*))
 all_goals refine ak ?_
 ·exact ew (by rw[bE];simp only[SS];omega)
 ·exact(qB.2 (by omega)).symm
theorem bg {x a b:Int}(hp:True):au 103 [.j x,.j a,.j b] [.k (inR x a b)]:=by
 refine cb nB Tryz.func103 ?_
 intro O r F hO hr hF;cbv
 repeat' first|apply And.intro|(apply be<;>intro hb<;>cbv)
 all_goals(subst hO hr hF;(try simp only[nc]at*);(try simp only[aj,SS,sa,az]at*))
 all_goals refine ak ?_
 ·exact ew (by rw[bE];simp only[SS];omega)
 ·exact(qB.2 (by omega)).symm
namespace F4
structure aQ where
 inR:Int->Int->Int->Bool
abbrev F0 :aQ:=⟨inR⟩
def ct (F:aQ):CT:=fun f ds=>match f,ds with
 |105,[.one (.v (.int .i64 x)),.one (.v (.int .i64 a)),.one (.v (.int .i64 b))]=>some (fun _=>True,[.k (F.inR x a b)])
 |103,[.one (.v (.int .i64 x)),.one (.v (.int .i64 a)),.one (.v (.int .i64 b))]=>some (fun _=>True,[.k (F.inR x a b)])
 |_,_=>none
theorem ai :aS (ct F0):=by
 intro f ds pre res h hp;unfold ct at h;split at h<;>cases h
 exact aZ hp;exact bg hp
abbrev B :cy:=tb ai
end F4
theorem dR {k:Int}(hp:True):au 264 [.j k] [.k (inR k 0 3)]:=by
 refine cb F4.B Tryz.func264 ?_
 exact sK
namespace F5
structure aQ where
 inR:Int->Int->Int->Bool
abbrev F0 :aQ:=⟨inR⟩
def ct (F:aQ):CT:=fun f ds=>match f,ds with
 |264,[.one (.v (.int .i64 k))]=>some (fun _=>True,[.k (F.inR k 0 3)])
 |103,[.one (.v (.int .i64 x)),.one (.v (.int .i64 a)),.one (.v (.int .i64 b))]=>some (fun _=>True,[.k (F.inR x a b)])
 |_,_=>none
theorem ai :aS (ct F0):=by
 intro f ds pre res h hp;unfold ct at h;split at h<;>cases h
 exact dR hp;exact bg hp
abbrev B :cy:=tb ai
end F5
theorem cC {k:Int}(hp:True):au 265 [.j k] [.j (clsSz k)]:=by
 refine cb F5.B Tryz.func265 ?_
 intro O r F hO hr hF;cbv
 repeat' first|apply And.intro|(apply be<;>intro hb<;>cbv)
 all_goals(subst hO hr hF;(try simp only[nc]at*);(try simp only[aj,SS,sa,az]at*))
 all_goals exact Tj
theorem dB {k:Int}(hp:True):au 244 [.j k] [.j (clsSz k)]:=by
 refine cb F5.B Tryz.func244 ?_
 intro O r F hO hr hF;cbv
 repeat' first|apply And.intro|(apply be<;>intro hb<;>cbv)
 all_goals(subst hO hr hF;(try simp only[nc]at*);(try simp only[aj,SS,sa,az]at*);(try rw[Kr (by assumption)]at*))
 all_goals exact Tj
namespace F6
structure aQ where
 inR:Int->Int->Int->Bool
 clsSz:Int->Int
abbrev F0 :aQ:=⟨inR,clsSz⟩
def ct (F:aQ):CT:=fun f ds=>match f,ds with
 |105,[.one (.v (.int .i64 x)),.one (.v (.int .i64 a)),.one (.v (.int .i64 b))]=>some (fun _=>True,[.k (F.inR x a b)])
 |103,[.one (.v (.int .i64 x)),.one (.v (.int .i64 a)),.one (.v (.int .i64 b))]=>some (fun _=>True,[.k (F.inR x a b)])
 |265,[.one (.v (.int .i64 k))]=>some (fun _=>True,[.j (F.clsSz k)])
 |_,_=>none
theorem ai :aS (ct F0):=by
 intro f ds pre res h hp;unfold ct at h;split at h<;>cases h
 exact aZ hp;exact bg hp;exact cC hp
abbrev B :cy:=tb ai
end F6
theorem kw {s:Int}(hp:True):au 268 [.j s] [.j (clsOf s)]:=by
 refine cb F6.B Tryz.func268 ?_
 intro O r F hO hr hF;cbv
 repeat' first|apply And.intro|(apply be<;>intro hb<;>cbv)|(refine⟨[0,3],[],Int,fun k=>[.reg 3 (.j k)],fun k=>0<=k/\k<=3/\(k=0\/clsSz (k-1)<s),fun k=>(3-k).toNat,⟨0,?_,?_⟩,?_⟩;rotate_left;(focus (cbv;done));intro k hk;replace hk:0<=k/\k<=3/\(k=0\/clsSz (k-1)<s):=hk;obtain⟨k0,k1,k2⟩:=hk;cbv)|(refine ab (O.ar .add .i64 k 1) ?_ ?_ ?_;focus (cbv;done))
 all_goals(subst hO hr hF;(try simp only[nc]at*);(try simp only[aj,SS,sa,az]at*))
 all_goals exact SQ
theorem kz {s:Int}(hp:True):au 246 [.j s] [.j (clsOf s)]:=by
 refine cb F6.B Tryz.func246 ?_
 intro O r F hO hr hF;cbv
 repeat' first|apply And.intro|(apply be<;>intro hb<;>cbv)|(refine⟨[0,3],[],Int,fun k=>[.reg 3 (.j k)],fun k=>0<=k/\k<=3/\(k=0\/clsSz (k-1)<s),fun k=>(3-k).toNat,⟨0,?_,?_⟩,?_⟩;rotate_left;(focus (cbv;done));intro k hk;replace hk:0<=k/\k<=3/\(k=0\/clsSz (k-1)<s):=hk;obtain⟨k0,k1,k2⟩:=hk;cbv)|(refine ab (O.ar .add .i64 k 1) ?_ ?_ ?_;focus (cbv;done))
 all_goals(subst hO hr hF;(try simp only[nc]at*);(try simp only[aj,SS,sa,az]at*);(try rw[Kr (k:=k) (by rw[bE];omega)]at*);(try rw[Kp (k:=k) (by rw[bE];omega)]at*))
 all_goals exact SQ
namespace W1
structure aQ where
 clsOf:Int->Int
 clsSz:Int->Int
abbrev F0 :aQ:=⟨clsOf,clsSz⟩
def ct (F:aQ):CT:=fun f ds=>match f,ds with
 |268,[.one (.v (.int .i64 s))]=>some (fun _=>True,[.j (F.clsOf s)])
 |265,[.one (.v (.int .i64 k))]=>some (fun _=>True,[.j (F.clsSz k)])
 |246,[.one (.v (.int .i64 s))]=>some (fun _=>True,[.j (F.clsOf s)])
 |244,[.one (.v (.int .i64 k))]=>some (fun _=>True,[.j (F.clsSz k)])
 |_,_=>none
theorem ai :aS (ct F0):=by
 intro f ds pre res h hp;unfold ct at h;split at h<;>cases h
 exact kw hp;exact cC hp;exact kz hp;exact dB hp
abbrev B :cy:=tb ai
end W1
theorem tA {d0 d1 d2 d3 ad:Int}(hp:True):au 203 [.agg [.i d0,.i d1,.i d2,.i d3],.ptr [.i ad]] [.k (eqB d1 ad)]:=by
 refine cb nB Tryz.func203 ?_
 intro O r F hO hr hF;cbv
 repeat' first|apply And.intro|(apply be<;>intro hb<;>cbv)
 all_goals(subst hO hr hF;(try simp only[nc]at*);(try simp only[aj,SS,sa,az]at*))
 all_goals first
  | (show(_:List DV)=_
     first
      |exact ak (nM (by assumption)).symm
      |exact ak (qo (by assumption)).symm
      |exact ak (ew (by unfold eqB;simp only[SS,decide_eq_true_eq]))
      |done)
  |trivial
  |trace_state
theorem rh {d0 d1 d2 pg:Int}(hp:True):au 196 [.agg [.i d0,.i d1,.i d2],.ptr [.i pg]] [.k (eqB d0 pg)]:=by
 refine cb nB Tryz.func196 ?_
 intro O r F hO hr hF;cbv
 repeat' first|apply And.intro|(apply be<;>intro hb<;>cbv)
 all_goals(subst hO hr hF;(try simp only[nc]at*);(try simp only[aj,SS,sa,az]at*))
 all_goals first
  | (show(_:List DV)=_
     first
      |exact ak (ew (by unfold eqB;simp only[SS,decide_eq_true_eq]))
      |done)
  |trace_state
namespace W3
structure aQ where
 eqB:Int->Int->Bool
abbrev F0 :aQ:=⟨eqB⟩
def ct (F:aQ):CT:=fun f ds=>match f,ds with
 |203,[.agg [.v (.int .i64 d0),.v (.int .i64 d1),.v (.int .i64 d2),.v (.int .i64 d3)],.ptr [.v (.int .i64 ad)]]=>some (fun _=>True,[.k (F.eqB d1 ad)])
 |196,[.agg [.v (.int .i64 d0),.v (.int .i64 d1),.v (.int .i64 d2)],.ptr [.v (.int .i64 pg)]]=>some (fun _=>True,[.k (F.eqB d0 pg)])
 |_,_=>none
theorem ai :aS (ct F0):=by
 intro f ds pre res h hp;unfold ct at h;split at h<;>cases h
 exact tA hp;exact rh hp
abbrev B :cy:=tb ai
end W3
theorem b8 {os:aa}{id:Int}(hp:Rw [tI,tI,tI,tI] os/\os.length<=1099511627776):au 202 [.one (.s 4 os),.fn 203 [[.i id]]] [.j (obI os id)]:=by
 obtain⟨hw,hn⟩:=hp;refine cb W3.B Tryz.func202 ?_
 intro O r F hO hr hF;cbv
 repeat' first|apply And.intro|(apply be<;>intro hb<;>cbv)|(refine⟨[0,1,7,8],[0],Int,fun i=>[.reg 8 (.j i)],fun i=>0<=i/\i<=((os.length:Nat):Int)/\upto (cg (pE os id)) i,fun i=>(os.length)-i.toNat,⟨0,?_,?_⟩,?_⟩;rotate_left;(focus (cbv;done));intro i hi;replace hi:0<=i/\i<=((os.length:Nat):Int)/\upto (cg (pE os id)) i:=hi;obtain⟨i0,i1,i2⟩:=hi;cbv)|(refine ab (O.ar .add .i64 i 1) ?_ ?_ ?_;focus (cbv;done))
 all_goals(subst hO hr hF;(try simp only[nc]at*);(try simp only[aj,SS,sa,az]at*);(try rw[cv (by omega) (by omega)]))
 all_goals first
  | (show(_:List DV)=_
     first
      |exact cp (cJ i2 i0 (by assumption) (show pE os id i=true from by assumption)).symm
      |exact cp (cJ i2 i0 (by assumption) (show pE os id i=true from nM (by assumption))).symm
      |exact cp (cK i2 (by assumption)).symm
      |done)
  |omega
  |exact eR
  |(show(lk _ _).isSome=true;kernel_rfl)
  |exact bi
  |exact aV i2 (eW (show pE os id i=false from by assumption))
  |exact aV i2 (eW (show pE os id i=false from qo (by assumption)))
  |exact⟨trivial,trivial⟩
  |trivial
  |trace_state
theorem bY {os:aa}{id:Int}(hp:Rw [tI,tI,tI] os/\os.length<=1099511627776):au 195 [.one (.s 3 os),.fn 196 [[.i id]]] [.j (spI os id)]:=by
 obtain⟨hw,hn⟩:=hp;refine cb W3.B Tryz.func195 ?_
 intro O r F hO hr hF;cbv
 repeat' first|apply And.intro|(apply be<;>intro hb<;>cbv)|(refine⟨[0,1,7,8],[0],Int,fun i=>[.reg 8 (.j i)],fun i=>0<=i/\i<=((os.length:Nat):Int)/\upto (cg (isSp os id)) i,fun i=>(os.length)-i.toNat,⟨0,?_,?_⟩,?_⟩;rotate_left;(focus (cbv;done));intro i hi;replace hi:0<=i/\i<=((os.length:Nat):Int)/\upto (cg (isSp os id)) i:=hi;obtain⟨i0,i1,i2⟩:=hi;cbv)|(refine ab (O.ar .add .i64 i 1) ?_ ?_ ?_;focus (cbv;done))
 all_goals(subst hO hr hF;(try simp only[nc]at*);(try simp only[aj,SS,sa,az]at*);(try rw[cv (by omega) (by omega)]))
 all_goals first
  | (show(_:List DV)=_
     first
      |exact cp (cJ i2 i0 (by assumption) (show isSp os id i=true from by assumption)).symm
      |exact cp (cK i2 (by assumption)).symm
      |done)
  |omega
  |exact eR
  |(show(lk _ _).isSome=true;kernel_rfl)
  |exact bi
  |exact aV i2 (eW (show isSp os id i=false from by assumption))
  |trace_state
namespace W4
structure aQ where
 obI:aa->Int->Int
 spI:aa->Int->Int
abbrev F0 :aQ:=⟨obI,spI⟩
def ct (F:aQ):CT:=fun f ds=>match f,ds with
 |202,[.one (.s 4 os),.fn 203 [[.v (.int .i64 id)]]]=>some (fun _=>Rw [tI,tI,tI,tI] os/\os.length<=1099511627776,[.j (F.obI os id)])
 |195,[.one (.s 3 os),.fn 196 [[.v (.int .i64 id)]]]=>some (fun _=>Rw [tI,tI,tI] os/\os.length<=1099511627776,[.j (F.spI os id)])
 |_,_=>none
theorem ai :aS (ct F0):=by
 intro f ds pre res h hp;unfold ct at h;split at h<;>cases h
 exact b8 hp;exact bY hp
abbrev B :cy:=tb ai
end W4
theorem yo {a0 a1 a2:aa}{a3:Int}{a4 a5 a6 a7 a8 a9 aA aB:aa}{aC:Int}{aD:aa}{aE aF aG aH:Int}{aI:Bool}{aJ aK:Int}{aL:aa}{aM aN ad:Int}(hp:Rw [tI,tI,tI,tI] a8/\a8.length<=1099511627776):au 94 [.agg (eD a0 a1 a2 a3 a4 a5 a6 a7 a8 a9 aA aB aC aD aE aF aG aH aI aJ aK aL aM aN),.j ad] [.j (obI a8 ad)]:=by
 refine cb W4.B Tryz.func94 ?_
 intro O r F hO hr hF;cbv
 repeat' first|apply And.intro|(apply be<;>intro hb<;>cbv)
 all_goals(subst hO hr hF;(try simp only[nc]at*);(try simp only[aj,SS,sa,az]at*))
 all_goals first|exact hp|exact rfl|trivial|trace_state
theorem lY {a0 a1 a2:aa}{a3:Int}{a4 a5 a6 a7 a8 a9 aA aB:aa}{aC:Int}{aD:aa}{aE aF aG aH:Int}{aI:Bool}{aJ aK:Int}{aL:aa}{aM aN pg:Int}(hp:Rw [tI,tI,tI] a6/\a6.length<=1099511627776):au 87 [.agg (eD a0 a1 a2 a3 a4 a5 a6 a7 a8 a9 aA aB aC aD aE aF aG aH aI aJ aK aL aM aN),.j pg] [.j (spI a6 pg)]:=by
 refine cb W4.B Tryz.func87 ?_
 intro O r F hO hr hF;cbv
 repeat' first|apply And.intro|(apply be<;>intro hb<;>cbv)
 all_goals(subst hO hr hF;(try simp only[nc]at*);(try simp only[aj,SS,sa,az]at*))
 all_goals first|exact hp|exact rfl|trace_state
theorem yx {a0 a1 a2:aa}{a3:Int}{a4 a5 a6 a7 a8 a9 aA aB:aa}{aC:Int}{aD:aa}{aE aF aG aH:Int}{aI:Bool}{aJ aK:Int}{aL:aa}{aM aN ad:Int}(hp:Rw [tI,tI,tI,tI] a8/\a8.length<=1099511627776):au 199 [.agg (eD a0 a1 a2 a3 a4 a5 a6 a7 a8 a9 aA aB aC aD aE aF aG aH aI aJ aK aL aM aN),.j ad] [.j (obI a8 ad)]:=by
 obtain⟨hw,hn⟩:=hp;refine cb nB Tryz.func199 ?_
 intro O r F hO hr hF;cbv
 repeat' first|apply And.intro|(apply be<;>intro hb<;>cbv)|(refine⟨[1,2,5],[2],Int,fun i=>[.reg 5 (.j i)],fun i=>0<=i/\i<=((a8.length:Nat):Int)/\upto (cg (pE a8 ad)) i,fun i=>(a8.length)-i.toNat,⟨0,?_,?_⟩,?_⟩;rotate_left;(focus (cbv;done));intro i hi;replace hi:0<=i/\i<=((a8.length:Nat):Int)/\upto (cg (pE a8 ad)) i:=hi;obtain⟨i0,i1,i2⟩:=hi;cbv)|(refine ab (O.ar .add .i64 i 1) ?_ ?_ ?_;focus (cbv;done))
 all_goals(subst hO hr hF;(try simp only[nc]at*);(try simp only[aj,SS,sa,az]at*);(try rw[cv (by omega) (by omega)]))
 all_goals first
  | (show(_:List DV)=_
     first
      |exact cp (cJ i2 i0 (by assumption) (show pE a8 ad i=true from by assumption)).symm
      |exact cp (cJ i2 i0 (by assumption) (show pE a8 ad i=true from nM (by assumption))).symm
      |exact cp (cK i2 (by assumption)).symm
      |done)
  |omega
  |exact eR
  |(show(lk _ _).isSome=true;kernel_rfl)
  |exact bi
  |exact aV i2 (eW (show pE a8 ad i=false from by assumption))
  |exact aV i2 (eW (show pE a8 ad i=false from qo (by assumption)))
  |exact⟨trivial,trivial⟩
  |trivial
  |trace_state
theorem iK {a0 a1 a2:aa}{a3:Int}{a4 a5 a6 a7 a8 a9 aA aB:aa}{aC:Int}{aD:aa}{aE aF aG aH:Int}{aI:Bool}{aJ aK:Int}{aL:aa}{aM aN pg:Int}(hp:Rw [tI,tI,tI] a6/\a6.length<=1099511627776):au 83 [.agg (eD a0 a1 a2 a3 a4 a5 a6 a7 a8 a9 aA aB aC aD aE aF aG aH aI aJ aK aL aM aN),.j pg] [.j (spI a6 pg)]:=by
 obtain⟨hw,hn⟩:=hp;refine cb nB Tryz.func83 ?_
 intro O r F hO hr hF;cbv
 repeat' first|apply And.intro|(apply be<;>intro hb<;>cbv)|(refine⟨[1,2,5],[2],Int,fun i=>[.reg 5 (.j i)],fun i=>0<=i/\i<=((a6.length:Nat):Int)/\upto (cg (isSp a6 pg)) i,fun i=>(a6.length)-i.toNat,⟨0,?_,?_⟩,?_⟩;rotate_left;(focus (cbv;done));intro i hi;replace hi:0<=i/\i<=((a6.length:Nat):Int)/\upto (cg (isSp a6 pg)) i:=hi;obtain⟨i0,i1,i2⟩:=hi;cbv)|(refine ab (O.ar .add .i64 i 1) ?_ ?_ ?_;focus (cbv;done))
 all_goals(subst hO hr hF;(try simp only[nc]at*);(try simp only[aj,SS,sa,az]at*);(try rw[cv (by omega) (by omega)]))
 all_goals first
  | (show(_:List DV)=_
     first
      |exact cp (cJ i2 i0 (by assumption) (show isSp a6 pg i=true from nM (by assumption))).symm
      |exact cp (cK i2 (by assumption)).symm
      |done)
  |omega
  |exact eR
  |exact bi
  |exact aV i2 (eW (show isSp a6 pg i=false from qo (by assumption)))
  |trace_state
end Go.V