/- Contracts. -/
import Derived.Test.YtniaaknbbceigaaGreatS10
import Derived.Test.YtniaaknbbceigaaGreatHA
set_option linter.all false
namespace Go.V
open Go Go.Proofs
set_option maxRecDepth 1000000
set_option maxHeartbeats 8000000
theorem aV {x a b:Int}(hp:True):ap 152 [.j x,.j a,.j b] [.k (inR x a b)]:=by
 refine cb nB Tryz.func152 ?_
 intro O r F hO hr hF;cbv
 repeat' first|apply And.intro|(apply be<;>intro hb<;>cbv)
 all_goals(subst hO hr hF;(try simp only[nc]at*);(try simp only[ai,SS,sa,az]at*))
 all_goals refine ag ?_
 ·exact ec (by rw[bE];simp only[SS];omega)
 ·exact(tJ.2 (by omega)).symm
theorem bh {x a b:Int}(hp:True):ap 126 [.j x,.j a,.j b] [.k (inR x a b)]:=by
 refine cb nB Tryz.func126 ?_
 intro O r F hO hr hF;cbv
 repeat' first|apply And.intro|(apply be<;>intro hb<;>cbv)
 all_goals(subst hO hr hF;(try simp only[nc]at*);(try simp only[ai,SS,sa,az]at*))
 all_goals refine ag ?_
 ·exact ec (by rw[bE];simp only[SS];omega)
 ·exact(tJ.2 (by omega)).symm
namespace F4
structure av where
 inR:Int->Int->Int->Bool
abbrev F0 :av:=⟨inR⟩
def ct (F:av):CT:=fun f ds=>match f,ds with
 |152,[.one (.v (.int .i64 x)),.one (.v (.int .i64 a)),.one (.v (.int .i64 b))]=>some (fun _=>True,[.k (F.inR x a b)])
 |126,[.one (.v (.int .i64 x)),.one (.v (.int .i64 a)),.one (.v (.int .i64 b))]=>some (fun _=>True,[.k (F.inR x a b)])
 |_,_=>none
theorem ah :aO (ct F0):=by
 intro f ds pre res h hp;unfold ct at h;split at h<;>cases h
 exact aV hp;exact bh hp
abbrev B :ce:=tb ah
end F4
theorem dH {k:Int}(hp:True):ap 187 [.j k] [.k (inR k 0 3)]:=by
 refine cb F4.B Tryz.func187 ?_
 exact mh
namespace F5
structure av where
 inR:Int->Int->Int->Bool
abbrev F0 :av:=⟨inR⟩
def ct (F:av):CT:=fun f ds=>match f,ds with
 |187,[.one (.v (.int .i64 k))]=>some (fun _=>True,[.k (F.inR k 0 3)])
 |126,[.one (.v (.int .i64 x)),.one (.v (.int .i64 a)),.one (.v (.int .i64 b))]=>some (fun _=>True,[.k (F.inR x a b)])
 |_,_=>none
theorem ah :aO (ct F0):=by
 intro f ds pre res h hp;unfold ct at h;split at h<;>cases h
 exact dH hp;exact bh hp
abbrev B :ce:=tb ah
end F5
theorem ca {k:Int}(hp:True):ap 95 [.j k] [.j (clsSz k)]:=by
 refine cb F5.B Tryz.func95 ?_
 intro O r F hO hr hF;cbv
 repeat' first|apply And.intro|(apply be<;>intro hb<;>cbv)
 all_goals(subst hO hr hF;(try simp only[nc]at*);(try simp only[ai,SS,sa,az]at*))
 all_goals exact RA
theorem cp {k:Int}(hp:True):ap 76 [.j k] [.j (clsSz k)]:=by
 refine cb F5.B Tryz.func76 ?_
 intro O r F hO hr hF;cbv
 repeat' first|apply And.intro|(apply be<;>intro hb<;>cbv)
 all_goals(subst hO hr hF;(try simp only[nc]at*);(try simp only[ai,SS,sa,az]at*);(try rw[JG (by assumption)]at*))
 all_goals exact RA
namespace F6
structure av where
 inR:Int->Int->Int->Bool
 clsSz:Int->Int
abbrev F0 :av:=⟨inR,clsSz⟩
def ct (F:av):CT:=fun f ds=>match f,ds with
 |152,[.one (.v (.int .i64 x)),.one (.v (.int .i64 a)),.one (.v (.int .i64 b))]=>some (fun _=>True,[.k (F.inR x a b)])
 |126,[.one (.v (.int .i64 x)),.one (.v (.int .i64 a)),.one (.v (.int .i64 b))]=>some (fun _=>True,[.k (F.inR x a b)])
 |95,[.one (.v (.int .i64 k))]=>some (fun _=>True,[.j (F.clsSz k)])
 |_,_=>none
theorem ah :aO (ct F0):=by
 intro f ds pre res h hp;unfold ct at h;split at h<;>cases h
 exact aV hp;exact bh hp;exact ca hp
abbrev B :ce:=tb ah
end F6
theorem j4 {s:Int}(hp:True):ap 94 [.j s] [.j (clsOf s)]:=by
 refine cb F6.B Tryz.func94 ?_
 intro O r F hO hr hF;cbv
 repeat' first|apply And.intro|(apply be<;>intro hb<;>cbv)|(refine⟨[0,3],[],Int,fun k=>[.reg 3 (.j k)],fun k=>0<=k/\k<=3/\(k=0\/clsSz (k-1)<s),fun k=>(3-k).toNat,⟨0,?_,?_⟩,?_⟩;rotate_left;(focus (cbv;done));intro k hk;replace hk:0<=k/\k<=3/\(k=0\/clsSz (k-1)<s):=hk;obtain⟨k0,k1,k2⟩:=hk;cbv)|(refine ab (O.ar .add .i64 k 1) ?_ ?_ ?_;focus (cbv;done))
 all_goals(subst hO hr hF;(try simp only[nc]at*);(try simp only[ai,SS,sa,az]at*))
 all_goals exact Rk
theorem j8 {s:Int}(hp:True):ap 87 [.j s] [.j (clsOf s)]:=by
 refine cb F6.B Tryz.func87 ?_
 intro O r F hO hr hF;cbv
 repeat' first|apply And.intro|(apply be<;>intro hb<;>cbv)|(refine⟨[0,3],[],Int,fun k=>[.reg 3 (.j k)],fun k=>0<=k/\k<=3/\(k=0\/clsSz (k-1)<s),fun k=>(3-k).toNat,⟨0,?_,?_⟩,?_⟩;rotate_left;(focus (cbv;done));intro k hk;replace hk:0<=k/\k<=3/\(k=0\/clsSz (k-1)<s):=hk;obtain⟨k0,k1,k2⟩:=hk;cbv)|(refine ab (O.ar .add .i64 k 1) ?_ ?_ ?_;focus (cbv;done))
 all_goals(subst hO hr hF;(try simp only[nc]at*);(try simp only[ai,SS,sa,az]at*);(try rw[JG (k:=k) (by rw[bE];omega)]at*);(try rw[JE (k:=k) (by rw[bE];omega)]at*))
 all_goals exact Rk
theorem pZ {d0 d1 d2 pg:Int}(hp:True):ap 228 [.agg [.i d0,.i d1,.i d2],.ptr [.i pg]] [.k (eqB d0 pg)]:=by
 refine cb nB Tryz.func228 ?_
 intro O r F hO hr hF;cbv
 repeat' first|apply And.intro|(apply be<;>intro hb<;>cbv)
 all_goals(subst hO hr hF;(try simp only[nc]at*);(try simp only[ai,SS,sa,az]at*))
 all_goals first
  | (show(_:List DV)=_
     first
      |exact ag (ec (by unfold eqB;simp only[SS,decide_eq_true_eq]))
      |done)
  |trace_state
namespace W3
structure av where
 eqB:Int->Int->Bool
abbrev F0 :av:=⟨eqB⟩
def ct (F:av):CT:=fun f ds=>match f,ds with
 |228,[.agg [.v (.int .i64 d0),.v (.int .i64 d1),.v (.int .i64 d2)],.ptr [.v (.int .i64 pg)]]=>some (fun _=>True,[.k (F.eqB d0 pg)])
 |_,_=>none
theorem ah :aO (ct F0):=by
 intro f ds pre res h hp;unfold ct at h;split at h<;>cases h
 exact pZ hp
abbrev B :ce:=tb ah
end W3
theorem bS {os:aa}{id:Int}(hp:Rw [tI,tI,tI] os/\os.length<=1099511627776):ap 227 [.one (.s 3 os),.fn 228 [[.i id]]] [.j (spI os id)]:=by
 obtain⟨hw,hn⟩:=hp;refine cb W3.B Tryz.func227 ?_
 intro O r F hO hr hF;cbv
 repeat' first|apply And.intro|(apply be<;>intro hb<;>cbv)|(refine⟨[0,1,7,8],[0],Int,fun i=>[.reg 8 (.j i)],fun i=>0<=i/\i<=((os.length:Nat):Int)/\upto (bZ (isSp os id)) i,fun i=>(os.length)-i.toNat,⟨0,?_,?_⟩,?_⟩;rotate_left;(focus (cbv;done));intro i hi;replace hi:0<=i/\i<=((os.length:Nat):Int)/\upto (bZ (isSp os id)) i:=hi;obtain⟨i0,i1,i2⟩:=hi;cbv)|(refine ab (O.ar .add .i64 i 1) ?_ ?_ ?_;focus (cbv;done))
 all_goals(subst hO hr hF;(try simp only[nc]at*);(try simp only[ai,SS,sa,az]at*);(try rw[bX (by omega) (by omega)]))
 all_goals first
  | (show(_:List DV)=_
     first
      |exact bJ (cO i2 i0 (by assumption) (show isSp os id i=true from by assumption)).symm
      |exact bJ (cP i2 (by assumption)).symm
      |done)
  |omega
  |exact d9
  |(show(lk _ _).isSome=true;kernel_rfl)
  |exact aX
  |exact aP i2 (fO (show isSp os id i=false from by assumption))
  |trace_state
namespace W4
structure av where
 spI:aa->Int->Int
abbrev F0 :av:=⟨spI⟩
def ct (F:av):CT:=fun f ds=>match f,ds with
 |227,[.one (.s 3 os),.fn 228 [[.v (.int .i64 id)]]]=>some (fun _=>Rw [tI,tI,tI] os/\os.length<=1099511627776,[.j (F.spI os id)])
 |_,_=>none
theorem ah :aO (ct F0):=by
 intro f ds pre res h hp;unfold ct at h;split at h<;>cases h
 exact bS hp
abbrev B :ce:=tb ah
end W4
theorem uN {a0 a1 a2:aa}{a3:Int}{a4 a5 a6 a7 a8 a9 aA aB:aa}{aC:Int}{aD:aa}{aE aF aG aH:Int}{aI:Bool}{aJ aK:Int}{aL:aa}{aM aN pg:Int}(hp:Rw [tI,tI,tI] a6/\a6.length<=1099511627776):ap 154 [.agg (ez a0 a1 a2 a3 a4 a5 a6 a7 a8 a9 aA aB aC aD aE aF aG aH aI aJ aK aL aM aN),.j pg] [.j (spI a6 pg)]:=by
 refine cb W4.B Tryz.func154 ?_
 intro O r F hO hr hF;cbv
 repeat' first|apply And.intro|(apply be<;>intro hb<;>cbv)
 all_goals(subst hO hr hF;(try simp only[nc]at*);(try simp only[ai,SS,sa,az]at*))
 all_goals first|exact hp|exact rfl|trace_state
theorem fq {a0 a1 a2:aa}{a3:Int}{a4 a5 a6 a7 a8 a9 aA aB:aa}{aC:Int}{aD:aa}{aE aF aG aH:Int}{aI:Bool}{aJ aK:Int}{aL:aa}{aM aN pg:Int}(hp:Rw [tI,tI,tI] a6/\a6.length<=1099511627776):ap 73 [.agg (ez a0 a1 a2 a3 a4 a5 a6 a7 a8 a9 aA aB aC aD aE aF aG aH aI aJ aK aL aM aN),.j pg] [.j (spI a6 pg)]:=by
 obtain⟨hw,hn⟩:=hp;refine cb nB Tryz.func73 ?_
 intro O r F hO hr hF;cbv
 repeat' first|apply And.intro|(apply be<;>intro hb<;>cbv)|(refine⟨[1,2,5],[2],Int,fun i=>[.reg 5 (.j i)],fun i=>0<=i/\i<=((a6.length:Nat):Int)/\upto (bZ (isSp a6 pg)) i,fun i=>(a6.length)-i.toNat,⟨0,?_,?_⟩,?_⟩;rotate_left;(focus (cbv;done));intro i hi;replace hi:0<=i/\i<=((a6.length:Nat):Int)/\upto (bZ (isSp a6 pg)) i:=hi;obtain⟨i0,i1,i2⟩:=hi;cbv)|(refine ab (O.ar .add .i64 i 1) ?_ ?_ ?_;focus (cbv;done))
 all_goals(subst hO hr hF;(try simp only[nc]at*);(try simp only[ai,SS,sa,az]at*);(try rw[bX (by omega) (by omega)]))
 all_goals first
  | (show(_:List DV)=_
     first
      |exact bJ (cO i2 i0 (by assumption) (show isSp a6 pg i=true from kj (by assumption))).symm
      |exact bJ (cP i2 (by assumption)).symm
      |done)
  |omega
  |exact d9
  |exact aX
  |exact aP i2 (fO (show isSp a6 pg i=false from tn (by assumption)))
  |trace_state
end Go.V