/- Contracts. -/
import Derived.Test.YtbedjnlfdopeeaaGreatXS14
import Derived.Test.YtbedjnlfdopeeaaGreatXHA
set_option linter.all false
open Go
open And renaming intro->Zb
open IntKind renaming i64->Za
namespace Go.V
open Go Go.Proofs
set_option maxRecDepth 1000000
set_option maxHeartbeats 8000000
theorem bc {x a b:Int}(hp:True):ap 41 [.j x,.j a,.j b] [.k (inR x a b)]:=by
 refine cb nB Tryz.func41 ?_
 intro O r F hO hr hF;cbv
 repeat' first|apply Zb|(apply bu<;>intro hb<;>cbv)
 all_goals(subst hO hr hF;(try simp only[nc]at*);(try simp only[ak,SS,sa,az]at*))
 all_goals refine ai ?_
 ·exact er (by rw[bB];simp only[SS];omega)
 ·exact(pM.2 (by omega)).symm
theorem be {x a b:Int}(hp:True):ap 28 [.j x,.j a,.j b] [.k (inR x a b)]:=by
 refine cb nB Tryz.func28 ?_
 intro O r F hO hr hF;cbv
 repeat' first|apply Zb|(apply bu<;>intro hb<;>cbv)
 all_goals(subst hO hr hF;(try simp only[nc]at*);(try simp only[ak,SS,sa,az]at*))
 all_goals refine ai ?_
 ·exact er (by rw[bB];simp only[SS];omega)
 ·exact(pM.2 (by omega)).symm
namespace F4
structure aP where
 inR:Int->Int->Int->Bool
abbrev F0:aP:=⟨inR⟩
def ct (F:aP):CT:=fun f ds=>match f,ds with
 |41,[.one (.v (.int Za x)),.one (.v (.int Za a)),.one (.v (.int Za b))]=>some (fun _=>True,[.k (F.inR x a b)])
 |28,[.one (.v (.int Za x)),.one (.v (.int Za a)),.one (.v (.int Za b))]=>some (fun _=>True,[.k (F.inR x a b)])
 |_,_=>none
theorem aj:aT (ct F0):=by
 intro f ds pre res h hp;unfold ct at h;split at h<;>cases h
 exact bc hp;exact be hp
abbrev B:cF:=tb aj
end F4
theorem dM {k:Int}(hp:True):ap 193 [.j k] [.k (inR k 0 3)]:=by
 refine cb F4.B Tryz.func193 ?_
 exact rU
namespace F5
structure aP where
 inR:Int->Int->Int->Bool
abbrev F0:aP:=⟨inR⟩
def ct (F:aP):CT:=fun f ds=>match f,ds with
 |193,[.one (.v (.int Za k))]=>some (fun _=>True,[.k (F.inR k 0 3)])
 |28,[.one (.v (.int Za x)),.one (.v (.int Za a)),.one (.v (.int Za b))]=>some (fun _=>True,[.k (F.inR x a b)])
 |_,_=>none
theorem aj:aT (ct F0):=by
 intro f ds pre res h hp;unfold ct at h;split at h<;>cases h
 exact dM hp;exact be hp
abbrev B:cF:=tb aj
end F5
theorem cz {k:Int}(hp:True):ap 84 [.j k] [.j (clsSz k)]:=by
 refine cb F5.B Tryz.func84 ?_
 intro O r F hO hr hF;cbv
 repeat' first|apply Zb|(apply bu<;>intro hb<;>cbv)
 all_goals(subst hO hr hF;(try simp only[nc]at*);(try simp only[ak,SS,sa,az]at*))
 all_goals exact Td
theorem du {k:Int}(hp:True):ap 183 [.j k] [.j (clsSz k)]:=by
 refine cb F5.B Tryz.func183 ?_
 intro O r F hO hr hF;cbv
 repeat' first|apply Zb|(apply bu<;>intro hb<;>cbv)
 all_goals(subst hO hr hF;(try simp only[nc]at*);(try simp only[ak,SS,sa,az]at*);(try rw[J3 (by assumption)]at*))
 all_goals exact Td
namespace F6
structure aP where
 inR:Int->Int->Int->Bool
 clsSz:Int->Int
abbrev F0:aP:=⟨inR,clsSz⟩
def ct (F:aP):CT:=fun f ds=>match f,ds with
 |41,[.one (.v (.int Za x)),.one (.v (.int Za a)),.one (.v (.int Za b))]=>some (fun _=>True,[.k (F.inR x a b)])
 |28,[.one (.v (.int Za x)),.one (.v (.int Za a)),.one (.v (.int Za b))]=>some (fun _=>True,[.k (F.inR x a b)])
 |84,[.one (.v (.int Za k))]=>some (fun _=>True,[.j (F.clsSz k)])
 |_,_=>none
theorem aj:aT (ct F0):=by
 intro f ds pre res h hp;unfold ct at h;split at h<;>cases h
 exact bc hp;exact be hp;exact cz hp
abbrev B:cF:=tb aj
end F6
theorem j3 {s:Int}(hp:True):ap 77 [.j s] [.j (clsOf s)]:=by
 refine cb F6.B Tryz.func77 ?_
 intro O r F hO hr hF;cbv
 repeat' first|apply Zb|(apply bu<;>intro hb<;>cbv)|(refine⟨[0,3],[],Int,fun k=>[.reg 3 (.j k)],fun k=>0<=k/\k<=3/\(k=0\/clsSz (k-1)<s),fun k=>(3-k).toNat,⟨0,?_,?_⟩,?_⟩;rotate_left;(focus (cbv;done));intro k hk;replace hk:0<=k/\k<=3/\(k=0\/clsSz (k-1)<s):=hk;obtain⟨k0,k1,k2⟩:=hk;cbv)|(refine ab (O.ar .add Za k 1) ?_ ?_ ?_;focus (cbv;done))
 all_goals(subst hO hr hF;(try simp only[nc]at*);(try simp only[ak,SS,sa,az]at*))
 all_goals exact SK
theorem j6 {s:Int}(hp:True):ap 179 [.j s] [.j (clsOf s)]:=by
 refine cb F6.B Tryz.func179 ?_
 intro O r F hO hr hF;cbv
 repeat' first|apply Zb|(apply bu<;>intro hb<;>cbv)|(refine⟨[0,3],[],Int,fun k=>[.reg 3 (.j k)],fun k=>0<=k/\k<=3/\(k=0\/clsSz (k-1)<s),fun k=>(3-k).toNat,⟨0,?_,?_⟩,?_⟩;rotate_left;(focus (cbv;done));intro k hk;replace hk:0<=k/\k<=3/\(k=0\/clsSz (k-1)<s):=hk;obtain⟨k0,k1,k2⟩:=hk;cbv)|(refine ab (O.ar .add Za k 1) ?_ ?_ ?_;focus (cbv;done))
 all_goals(subst hO hr hF;(try simp only[nc]at*);(try simp only[ak,SS,sa,az]at*);(try rw[J3 (k:=k) (by rw[bB];omega)]at*);(try rw[J1 (k:=k) (by rw[bB];omega)]at*))
 all_goals exact SK
namespace W1
structure aP where
 clsOf:Int->Int
 clsSz:Int->Int
abbrev F0:aP:=⟨clsOf,clsSz⟩
def ct (F:aP):CT:=fun f ds=>match f,ds with
 |77,[.one (.v (.int Za s))]=>some (fun _=>True,[.j (F.clsOf s)])
 |84,[.one (.v (.int Za k))]=>some (fun _=>True,[.j (F.clsSz k)])
 |179,[.one (.v (.int Za s))]=>some (fun _=>True,[.j (F.clsOf s)])
 |183,[.one (.v (.int Za k))]=>some (fun _=>True,[.j (F.clsSz k)])
 |_,_=>none
theorem aj:aT (ct F0):=by
 intro f ds pre res h hp;unfold ct at h;split at h<;>cases h
 exact j3 hp;exact cz hp;exact j6 hp;exact du hp
abbrev B:cF:=tb aj
end W1
theorem sL {d0 d1 d2 d3 ad:Int}(hp:True):ap 188 [.agg [.i d0,.i d1,.i d2,.i d3],.ptr [.i ad]] [.k (eqB d1 ad)]:=by
 refine cb nB Tryz.func188 ?_
 intro O r F hO hr hF;cbv
 repeat' first|apply Zb|(apply bu<;>intro hb<;>cbv)
 all_goals(subst hO hr hF;(try simp only[nc]at*);(try simp only[ak,SS,sa,az]at*))
 all_goals first
  | (show(_:List DV)=_
     first
      |exact ai (ui (by assumption)).symm
      |exact ai (wW (by assumption)).symm
      |exact ai (er (by unfold eqB;simp only[SS,aa2]))
      |done)
  |trivial
  |trace_state
theorem qo {d0 d1 d2 pg:Int}(hp:True):ap 240 [.agg [.i d0,.i d1,.i d2],.ptr [.i pg]] [.k (eqB d0 pg)]:=by
 refine cb nB Tryz.func240 ?_
 intro O r F hO hr hF;cbv
 repeat' first|apply Zb|(apply bu<;>intro hb<;>cbv)
 all_goals(subst hO hr hF;(try simp only[nc]at*);(try simp only[ak,SS,sa,az]at*))
 all_goals first
  | (show(_:List DV)=_
     first
      |exact ai (er (by unfold eqB;simp only[SS,aa2]))
      |done)
  |trace_state
namespace W3
structure aP where
 eqB:Int->Int->Bool
abbrev F0:aP:=⟨eqB⟩
def ct (F:aP):CT:=fun f ds=>match f,ds with
 |188,[.agg [.v (.int Za d0),.v (.int Za d1),.v (.int Za d2),.v (.int Za d3)],.ptr [.v (.int Za ad)]]=>some (fun _=>True,[.k (F.eqB d1 ad)])
 |240,[.agg [.v (.int Za d0),.v (.int Za d1),.v (.int Za d2)],.ptr [.v (.int Za pg)]]=>some (fun _=>True,[.k (F.eqB d0 pg)])
 |_,_=>none
theorem aj:aT (ct F0):=by
 intro f ds pre res h hp;unfold ct at h;split at h<;>cases h
 exact sL hp;exact qo hp
abbrev B:cF:=tb aj
end W3
theorem bZ {os:aa}{id:Int}(hp:Rw [tI,tI,tI,tI] os/\os.length<=1099511627776):ap 187 [.one (.s 4 os),.fn 188 [[.i id]]] [.j (obI os id)]:=by
 obtain⟨hw,hn⟩:=hp;refine cb W3.B Tryz.func187 ?_
 intro O r F hO hr hF;cbv
 repeat' first|apply Zb|(apply bu<;>intro hb<;>cbv)|(refine⟨[0,1,7,8],[0],Int,fun i=>[.reg 8 (.j i)],fun i=>0<=i/\i<=((os.length:Nat):Int)/\upto (cv (BF os id)) i,fun i=>(os.length)-i.toNat,⟨0,?_,?_⟩,?_⟩;rotate_left;(focus (cbv;done));intro i hi;replace hi:0<=i/\i<=((os.length:Nat):Int)/\upto (cv (BF os id)) i:=hi;obtain⟨i0,i1,i2⟩:=hi;cbv)|(refine ab (O.ar .add Za i 1) ?_ ?_ ?_;focus (cbv;done))
 all_goals(subst hO hr hF;(try simp only[nc]at*);(try simp only[ak,SS,sa,az]at*);(try rw[cy (by omega) (by omega)]))
 all_goals first
  | (show(_:List DV)=_
     first
      |exact cT (dz i2 i0 (by assumption) (show BF os id i=true from by assumption)).symm
      |exact cT (dz i2 i0 (by assumption) (show BF os id i=true from ui (by assumption))).symm
      |exact cT (dP i2 (by assumption)).symm
      |done)
  |omega
  |exact eF
  |(show(lk _ _).isSome=true;kernel_rfl)
  |exact bC
  |exact aW i2 (iz (show BF os id i=false from by assumption))
  |exact aW i2 (iz (show BF os id i=false from wW (by assumption)))
  |exact⟨trivial,trivial⟩
  |trivial
  |trace_state
theorem bX {os:aa}{id:Int}(hp:Rw [tI,tI,tI] os/\os.length<=1099511627776):ap 239 [.one (.s 3 os),.fn 240 [[.i id]]] [.j (spI os id)]:=by
 obtain⟨hw,hn⟩:=hp;refine cb W3.B Tryz.func239 ?_
 intro O r F hO hr hF;cbv
 repeat' first|apply Zb|(apply bu<;>intro hb<;>cbv)|(refine⟨[0,1,7,8],[0],Int,fun i=>[.reg 8 (.j i)],fun i=>0<=i/\i<=((os.length:Nat):Int)/\upto (cv (isSp os id)) i,fun i=>(os.length)-i.toNat,⟨0,?_,?_⟩,?_⟩;rotate_left;(focus (cbv;done));intro i hi;replace hi:0<=i/\i<=((os.length:Nat):Int)/\upto (cv (isSp os id)) i:=hi;obtain⟨i0,i1,i2⟩:=hi;cbv)|(refine ab (O.ar .add Za i 1) ?_ ?_ ?_;focus (cbv;done))
 all_goals(subst hO hr hF;(try simp only[nc]at*);(try simp only[ak,SS,sa,az]at*);(try rw[cy (by omega) (by omega)]))
 all_goals first
  | (show(_:List DV)=_
     first
      |exact cT (dz i2 i0 (by assumption) (show isSp os id i=true from by assumption)).symm
      |exact cT (dP i2 (by assumption)).symm
      |done)
  |omega
  |exact eF
  |(show(lk _ _).isSome=true;kernel_rfl)
  |exact bC
  |exact aW i2 (iz (show isSp os id i=false from by assumption))
  |trace_state
namespace W4
structure aP where
 obI:aa->Int->Int
 spI:aa->Int->Int
abbrev F0:aP:=⟨obI,spI⟩
def ct (F:aP):CT:=fun f ds=>match f,ds with
 |187,[.one (.s 4 os),.fn 188 [[.v (.int Za id)]]]=>some (fun _=>Rw [tI,tI,tI,tI] os/\os.length<=1099511627776,[.j (F.obI os id)])
 |239,[.one (.s 3 os),.fn 240 [[.v (.int Za id)]]]=>some (fun _=>Rw [tI,tI,tI] os/\os.length<=1099511627776,[.j (F.spI os id)])
 |_,_=>none
theorem aj:aT (ct F0):=by
 intro f ds pre res h hp;unfold ct at h;split at h<;>cases h
 exact bZ hp;exact bX hp
abbrev B:cF:=tb aj
end W4
theorem vU {a0 a1 a2:aa}{a3:Int}{a4 a5 a6 a7 a8 a9 aA aB:aa}{aC:Int}{aD:aa}{aE aF aG aH:Int}{aI:Bool}{aJ aK:Int}{aL:aa}{aM aN pg:Int}(hp:Rw [tI,tI,tI] a6/\a6.length<=1099511627776):ap 135 [.agg (iF a0 a1 a2 a3 a4 a5 a6 a7 a8 a9 aA aB aC aD aE aF aG aH aI aJ aK aL aM aN),.j pg] [.j (spI a6 pg)]:=by
 refine cb W4.B Tryz.func135 ?_
 intro O r F hO hr hF;cbv
 repeat' first|apply Zb|(apply bu<;>intro hb<;>cbv)
 all_goals(subst hO hr hF;(try simp only[nc]at*);(try simp only[ak,SS,sa,az]at*))
 all_goals first|exact hp|exact rfl|trace_state
theorem io {a0 a1 a2:aa}{a3:Int}{a4 a5 a6 a7 a8 a9 aA aB:aa}{aC:Int}{aD:aa}{aE aF aG aH:Int}{aI:Bool}{aJ aK:Int}{aL:aa}{aM aN pg:Int}(hp:Rw [tI,tI,tI] a6/\a6.length<=1099511627776):ap 176 [.agg (iF a0 a1 a2 a3 a4 a5 a6 a7 a8 a9 aA aB aC aD aE aF aG aH aI aJ aK aL aM aN),.j pg] [.j (spI a6 pg)]:=by
 obtain⟨hw,hn⟩:=hp;refine cb nB Tryz.func176 ?_
 intro O r F hO hr hF;cbv
 repeat' first|apply Zb|(apply bu<;>intro hb<;>cbv)|(refine⟨[1,2,5],[2],Int,fun i=>[.reg 5 (.j i)],fun i=>0<=i/\i<=((a6.length:Nat):Int)/\upto (cv (isSp a6 pg)) i,fun i=>(a6.length)-i.toNat,⟨0,?_,?_⟩,?_⟩;rotate_left;(focus (cbv;done));intro i hi;replace hi:0<=i/\i<=((a6.length:Nat):Int)/\upto (cv (isSp a6 pg)) i:=hi;obtain⟨i0,i1,i2⟩:=hi;cbv)|(refine ab (O.ar .add Za i 1) ?_ ?_ ?_;focus (cbv;done))
 all_goals(subst hO hr hF;(try simp only[nc]at*);(try simp only[ak,SS,sa,az]at*);(try rw[cy (by omega) (by omega)]))
 all_goals first
  | (show(_:List DV)=_
     first
      |exact cT (dz i2 i0 (by assumption) (show isSp a6 pg i=true from ui (by assumption))).symm
      |exact cT (dP i2 (by assumption)).symm
      |done)
  |omega
  |exact eF
  |exact bC
  |exact aW i2 (iz (show isSp a6 pg i=false from wW (by assumption)))
  |trace_state
end Go.V