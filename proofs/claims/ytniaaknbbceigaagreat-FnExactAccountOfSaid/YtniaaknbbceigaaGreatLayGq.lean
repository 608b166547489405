/- Contracts. -/
import Derived.Test.YtniaaknbbceigaaGreatLayFq
set_option linter.all false
namespace Go.V
open Go Go.Proofs
set_option maxRecDepth 1000000
set_option maxHeartbeats 8000000
theorem mA {d0 d1 d2 ad:Int}(hp:True):ap 267 [.agg [.i d0,.i d1,.i d2],.ptr [.i ad]] [.k (eqB d0 ad)]:=by
 refine cb nB Tryz.func267 ?_
 exact Rt
namespace Lg1
structure av where
 eqB:Int->Int->Bool
abbrev F0 :av:=⟨eqB⟩
def ct (F:av):CT:=fun f ds=>match f,ds with
 |267,[.agg [.v (.int .i64 d0),.v (.int .i64 d1),.v (.int .i64 d2)],.ptr [.v (.int .i64 ad)]]=>some (fun _=>True,[.k (F.eqB d0 ad)])
 |_,_=>none
theorem ah :aO (ct F0):=by
 intro f ds pre res h hp;unfold ct at h;split at h<;>cases h
 exact mA hp
abbrev B :ce:=tb ah
end Lg1
theorem bN {os:aa}{id:Int}(hp:Rw [tI,tI,tI] os/\os.length<=1099511627776):ap 271 [.one (.s 3 os),.fn 267 [[.i id]]] [.j (qtI os id)]:=by
 obtain⟨hw,hn⟩:=hp;refine cb Lg1.B Tryz.func271 ?_
 intro O r F hO hr hF;cbv
 repeat' first|apply And.intro|(apply be<;>intro hb<;>cbv)|(refine⟨[0,1,7,8],[0],Int,fun i=>[.reg 8 (.j i)],fun i=>0<=i/\i<=((os.length:Nat):Int)/\upto (bZ (vy os id)) i,fun i=>(os.length)-i.toNat,⟨0,?_,?_⟩,?_⟩;rotate_left;(focus (cbv;done));intro i hi;replace hi:0<=i/\i<=((os.length:Nat):Int)/\upto (bZ (vy os id)) i:=hi;obtain⟨i0,i1,i2⟩:=hi;cbv)|(refine ab (O.ar .add .i64 i 1) ?_ ?_ ?_;focus (cbv;done))
 all_goals(subst hO hr hF;(try simp only[nc]at*);(try simp only[ai,SS,sa,az]at*);(try rw[bX (by omega) (by omega)]))
 all_goals first
  | (show(_:List DV)=_
     first
      |exact bJ (cO i2 i0 (by assumption) (show vy os id i=true from by assumption)).symm
      |exact bJ (cP i2 (by assumption)).symm
      |done)
  |omega
  |exact d9
  |(show(lk _ _).isSome=true;kernel_rfl)
  |exact aX
  |exact aP i2 (fO (show vy os id i=false from by assumption))
  |done
namespace Lg2
structure av where
 qtI:aa->Int->Int
abbrev F0 :av:=⟨qtI⟩
def ct (F:av):CT:=fun f ds=>match f,ds with
 |271,[.one (.s 3 os),.fn 267 [[.v (.int .i64 id)]]]=>some (fun _=>Rw [tI,tI,tI] os/\os.length<=1099511627776,[.j (F.qtI os id)])
 |_,_=>none
theorem ah :aO (ct F0):=by
 intro f ds pre res h hp;unfold ct at h;split at h<;>cases h
 exact bN hp
abbrev B :ce:=tb ah
end Lg2
theorem bI {os:aa}{id:Int}(hp:Rw [tI,tI,tI] os/\os.length<=1099511627776):ap 266 [.one (.s 3 os),.fn 267 [[.i id]]] [.k (qtB os id)]:=by
 refine cb Lg2.B Tryz.func266 ?_
 intro O r F hO hr hF;cbv
 repeat' first|apply And.intro|(apply be<;>intro hb<;>cbv)
 all_goals(subst hO hr hF;(try simp only[nc]at*);(try simp only[ai,SS,sa,az]at*))
 all_goals first
  | (show(_:List DV)=_
     first
      |exact ag (ec (by unfold qtB;simp only[SS,decide_eq_true_eq]))
      |done)
  |exact hp
  |done
namespace Lg3
structure av where
 qtB:aa->Int->Bool
abbrev F0 :av:=⟨qtB⟩
def ct (F:av):CT:=fun f ds=>match f,ds with
 |266,[.one (.s 3 os),.fn 267 [[.v (.int .i64 id)]]]=>some (fun _=>Rw [tI,tI,tI] os/\os.length<=1099511627776,[.k (F.qtB os id)])
 |_,_=>none
theorem ah :aO (ct F0):=by
 intro f ds pre res h hp;unfold ct at h;split at h<;>cases h
 exact bI hp
abbrev B :ce:=tb ah
end Lg3
theorem jB {os:aa}{id:Int}(hp:Rw [tI,tI,tI] os/\os.length<=1099511627776):ap 255 [.one (.s 3 os),.j id] [.k (qtB os id)]:=by
 refine cb Lg3.B Tryz.func255 ?_
 exact Rz
namespace Lg4
structure av where
 qtB:aa->Int->Bool
abbrev F0 :av:=⟨qtB⟩
def ct (F:av):CT:=fun f ds=>match f,ds with
 |255,[.one (.s 3 os),.one (.v (.int .i64 id))]=>some (fun _=>Rw [tI,tI,tI] os/\os.length<=1099511627776,[.k (F.qtB os id)])
 |_,_=>none
theorem ah :aO (ct F0):=by
 intro f ds pre res h hp;unfold ct at h;split at h<;>cases h
 exact jB hp
abbrev B :ce:=tb ah
end Lg4
theorem sS {rm:Int}{os:aa}{id:Int}(hp:Rw [tI,tI,tI] os/\os.length<=1099511627776):ap 206 [.agg [.i rm,.s 3 os],.j id] [.k (qtB os id)]:=by
 obtain⟨hw,hn⟩:=hp;have hm:=hw.1;unfold maxLen at hm;refine cb Lg4.B Tryz.func206 ?_
 intro O r F hO hr hF;cbv
 repeat' first|apply And.intro|(apply be<;>intro hb<;>cbv)|(refine⟨[1,2,5],[2],Int,fun i=>[.reg 5 (.j i)],fun i=>0<=i/\i<=((os.length:Nat):Int)/\upto (bZ (vy os id)) i,fun i=>(os.length)-i.toNat,⟨0,?_,?_⟩,?_⟩;rotate_left;(focus (cbv;done));intro i hi;replace hi:0<=i/\i<=((os.length:Nat):Int)/\upto (bZ (vy os id)) i:=hi;obtain⟨i0,i1,i2⟩:=hi;cbv)|(refine ab (O.ar .add .i64 i 1) ?_ ?_ ?_;focus (cbv;done))
 all_goals(subst hO hr hF;(try simp only[nc]at*);(try simp only[ai,SS,sa,az]at*);(try rw[bX (by omega) (by omega)]))
 all_goals first
  | (show(_:List DV)=_
     first
      |(refine ag ?_;symm;exact MW i2 i0 (by assumption) (by assumption))
      |(refine ag ?_;symm;exact Qw i2 (by omega))
      |done)
  |omega
  |exact d9
  |exact aX
  |exact aP i2 (fO (show vy os id i=false from tn (by assumption)))
  |done
end Go.V