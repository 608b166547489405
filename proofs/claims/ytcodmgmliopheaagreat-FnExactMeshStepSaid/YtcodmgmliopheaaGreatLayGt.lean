/- Contracts. -/
import Derived.Test.YtcodmgmliopheaaGreatLayFt
set_option linter.all false
open Go
open And renaming intro->AT
namespace Go.V
open Go Go.Proofs
set_option maxRecDepth 1000000
set_option maxHeartbeats 8000000
theorem mU {d0 d1 d2 ad:Int}(hp:True):aw 404 [.agg [.i d0,.i d1,.i d2],.ptr [.i ad]] [.k (eqB d0 ad)]:=by
 refine cb nB Tryz.func404 ?_
 exact Rv
namespace Lg1
structure aQ where
 eqB:Int->Int->Bool
abbrev F0 :aQ:=⟨eqB⟩
def ct (F:aQ):CT:=fun f ds=>match f,ds with
 |404,[.agg [.v (.int .i64 d0),.v (.int .i64 d1),.v (.int .i64 d2)],.ptr [.v (.int .i64 ad)]]=>some (fun _=>True,[.k (F.eqB d0 ad)])
 |_,_=>none
theorem aj :aR (ct F0):=by
 intro f ds pre res h hp;unfold ct at h;split at h<;>cases h
 exact mU hp
abbrev B :cy:=tb aj
end Lg1
theorem bS {os:aa}{id:Int}(hp:Rw [tI,tI,tI] os/\os.length<=1099511627776):aw 425 [.one (.s 3 os),.fn 404 [[.i id]]] [.j (qtI os id)]:=by
 obtain⟨hw,hn⟩:=hp;refine cb Lg1.B Tryz.func425 ?_
 intro O r F hO hr hF;cbv
 repeat' first|apply AT|(apply bi<;>intro hb<;>cbv)|(refine⟨[0,1,7,8],[0],Int,fun i=>[.reg 8 (.j i)],fun i=>0<=i/\i<=((os.length:Nat):Int)/\upto (cp (xc os id)) i,fun i=>(os.length)-i.toNat,⟨0,?_,?_⟩,?_⟩;rotate_left;(focus (cbv;done));intro i hi;replace hi:0<=i/\i<=((os.length:Nat):Int)/\upto (cp (xc os id)) i:=hi;obtain⟨i0,i1,i2⟩:=hi;cbv)|(refine ab (O.ar .add .i64 i 1) ?_ ?_ ?_;focus (cbv;done))
 all_goals(subst hO hr hF;(try simp only[nc]at*);(try simp only[ah,SS,sa,az]at*);(try rw[cE (by omega) (by omega)]))
 all_goals first
  | (show(_:List DV)=_
     first
      |exact cT (dD i2 i0 (by assumption) (show xc os id i=true from by assumption)).symm
      |exact cT (dE i2 (by assumption)).symm
      |done)
  |omega
  |exact fe
  |(show(lk _ _).isSome=true;kernel_rfl)
  |exact bu
  |exact aY i2 (jr (show xc os id i=false from by assumption))
  |done
namespace Lg2
structure aQ where
 qtI:aa->Int->Int
abbrev F0 :aQ:=⟨qtI⟩
def ct (F:aQ):CT:=fun f ds=>match f,ds with
 |425,[.one (.s 3 os),.fn 404 [[.v (.int .i64 id)]]]=>some (fun _=>Rw [tI,tI,tI] os/\os.length<=1099511627776,[.j (F.qtI os id)])
 |_,_=>none
theorem aj :aR (ct F0):=by
 intro f ds pre res h hp;unfold ct at h;split at h<;>cases h
 exact bS hp
abbrev B :cy:=tb aj
end Lg2
theorem bO {os:aa}{id:Int}(hp:Rw [tI,tI,tI] os/\os.length<=1099511627776):aw 403 [.one (.s 3 os),.fn 404 [[.i id]]] [.k (qtB os id)]:=by
 refine cb Lg2.B Tryz.func403 ?_
 intro O r F hO hr hF;cbv
 repeat' first|apply AT|(apply bi<;>intro hb<;>cbv)
 all_goals(subst hO hr hF;(try simp only[nc]at*);(try simp only[ah,SS,sa,az]at*))
 all_goals first
  | (show(_:List DV)=_
     first
      |exact ai (eA (by unfold qtB;simp only[SS,decide_eq_true_eq]))
      |done)
  |exact hp
  |done
namespace Lg3
structure aQ where
 qtB:aa->Int->Bool
abbrev F0 :aQ:=⟨qtB⟩
def ct (F:aQ):CT:=fun f ds=>match f,ds with
 |403,[.one (.s 3 os),.fn 404 [[.v (.int .i64 id)]]]=>some (fun _=>Rw [tI,tI,tI] os/\os.length<=1099511627776,[.k (F.qtB os id)])
 |_,_=>none
theorem aj :aR (ct F0):=by
 intro f ds pre res h hp;unfold ct at h;split at h<;>cases h
 exact bO hp
abbrev B :cy:=tb aj
end Lg3
theorem jR {os:aa}{id:Int}(hp:Rw [tI,tI,tI] os/\os.length<=1099511627776):aw 344 [.one (.s 3 os),.j id] [.k (qtB os id)]:=by
 refine cb Lg3.B Tryz.func344 ?_
 exact RB
namespace Lg4
structure aQ where
 qtB:aa->Int->Bool
abbrev F0 :aQ:=⟨qtB⟩
def ct (F:aQ):CT:=fun f ds=>match f,ds with
 |344,[.one (.s 3 os),.one (.v (.int .i64 id))]=>some (fun _=>Rw [tI,tI,tI] os/\os.length<=1099511627776,[.k (F.qtB os id)])
 |_,_=>none
theorem aj :aR (ct F0):=by
 intro f ds pre res h hp;unfold ct at h;split at h<;>cases h
 exact jR hp
abbrev B :cy:=tb aj
end Lg4
theorem tW {rm:Int}{os:aa}{id:Int}(hp:Rw [tI,tI,tI] os/\os.length<=1099511627776):aw 272 [.agg [.i rm,.s 3 os],.j id] [.k (qtB os id)]:=by
 obtain⟨hw,hn⟩:=hp;have hm:=hw.1;unfold maxLen at hm;refine cb Lg4.B Tryz.func272 ?_
 intro O r F hO hr hF;cbv
 repeat' first|apply AT|(apply bi<;>intro hb<;>cbv)|(refine⟨[1,2,5],[2],Int,fun i=>[.reg 5 (.j i)],fun i=>0<=i/\i<=((os.length:Nat):Int)/\upto (cp (xc os id)) i,fun i=>(os.length)-i.toNat,⟨0,?_,?_⟩,?_⟩;rotate_left;(focus (cbv;done));intro i hi;replace hi:0<=i/\i<=((os.length:Nat):Int)/\upto (cp (xc os id)) i:=hi;obtain⟨i0,i1,i2⟩:=hi;cbv)|(refine ab (O.ar .add .i64 i 1) ?_ ?_ ?_;focus (cbv;done))
 all_goals(subst hO hr hF;(try simp only[nc]at*);(try simp only[ah,SS,sa,az]at*);(try rw[cE (by omega) (by omega)]))
 all_goals first
  | (show(_:List DV)=_
     first
      |(refine ai ?_;symm;exact M4 i2 i0 (by assumption) (by assumption))
      |(refine ai ?_;symm;exact QB i2 (by omega))
      |done)
  |omega
  |exact fe
  |exact bu
  |exact aY i2 (jr (show xc os id i=false from uD (by assumption)))
  |done
end Go.V