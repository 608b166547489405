/- Contracts. -/
import Derived.Test.YtllcfbgmhgodhaaGreatLayFr
set_option linter.all false
namespace Go.V
open Go Go.Proofs
set_option maxRecDepth 1000000
set_option maxHeartbeats 8000000
theorem mY {d0 d1 d2 ad:Int}(hp:True):au 357 [.agg [.i d0,.i d1,.i d2],.ptr [.i ad]] [.k (eqB d0 ad)]:=by
 refine cb nB Tryz.func357 ?_
 exact Tc
namespace Lg1
structure aQ where
 eqB:Int->Int->Bool
abbrev F0 :aQ:=⟨eqB⟩
def ct (F:aQ):CT:=fun f ds=>match f,ds with
 |357,[.agg [.v (.int .i64 d0),.v (.int .i64 d1),.v (.int .i64 d2)],.ptr [.v (.int .i64 ad)]]=>some (fun _=>True,[.k (F.eqB d0 ad)])
 |_,_=>none
theorem ai :aS (ct F0):=by
 intro f ds pre res h hp;unfold ct at h;split at h<;>cases h
 exact mY hp
abbrev B :cy:=tb ai
end Lg1
theorem bV {os:aa}{id:Int}(hp:Rw [tI,tI,tI] os/\os.length<=1099511627776):au 364 [.one (.s 3 os),.fn 357 [[.i id]]] [.j (qtI os id)]:=by
 obtain⟨hw,hn⟩:=hp;refine cb Lg1.B Tryz.func364 ?_
 intro O r F hO hr hF;cbv
 repeat' first|apply And.intro|(apply be<;>intro hb<;>cbv)|(refine⟨[0,1,7,8],[0],Int,fun i=>[.reg 8 (.j i)],fun i=>0<=i/\i<=((os.length:Nat):Int)/\upto (cg (xc os id)) i,fun i=>(os.length)-i.toNat,⟨0,?_,?_⟩,?_⟩;rotate_left;(focus (cbv;done));intro i hi;replace hi:0<=i/\i<=((os.length:Nat):Int)/\upto (cg (xc os id)) i:=hi;obtain⟨i0,i1,i2⟩:=hi;cbv)|(refine ab (O.ar .add .i64 i 1) ?_ ?_ ?_;focus (cbv;done))
 all_goals(subst hO hr hF;(try simp only[nc]at*);(try simp only[aj,SS,sa,az]at*);(try rw[cv (by omega) (by omega)]))
 all_goals first
  | (show(_:List DV)=_
     first
      |exact cp (cJ i2 i0 (by assumption) (show xc os id i=true from by assumption)).symm
      |exact cp (cK i2 (by assumption)).symm
      |done)
  |omega
  |exact eR
  |(show(lk _ _).isSome=true;kernel_rfl)
  |exact bi
  |exact aV i2 (eW (show xc os id i=false from by assumption))
  |done
namespace Lg2
structure aQ where
 qtI:aa->Int->Int
abbrev F0 :aQ:=⟨qtI⟩
def ct (F:aQ):CT:=fun f ds=>match f,ds with
 |364,[.one (.s 3 os),.fn 357 [[.v (.int .i64 id)]]]=>some (fun _=>Rw [tI,tI,tI] os/\os.length<=1099511627776,[.j (F.qtI os id)])
 |_,_=>none
theorem ai :aS (ct F0):=by
 intro f ds pre res h hp;unfold ct at h;split at h<;>cases h
 exact bV hp
abbrev B :cy:=tb ai
end Lg2
theorem bQ {os:aa}{id:Int}(hp:Rw [tI,tI,tI] os/\os.length<=1099511627776):au 356 [.one (.s 3 os),.fn 357 [[.i id]]] [.k (qtB os id)]:=by
 refine cb Lg2.B Tryz.func356 ?_
 intro O r F hO hr hF;cbv
 repeat' first|apply And.intro|(apply be<;>intro hb<;>cbv)
 all_goals(subst hO hr hF;(try simp only[nc]at*);(try simp only[aj,SS,sa,az]at*))
 all_goals first
  | (show(_:List DV)=_
     first
      |exact ak (ew (by unfold qtB;simp only[SS,decide_eq_true_eq]))
      |done)
  |exact hp
  |done
namespace Lg3
structure aQ where
 qtB:aa->Int->Bool
abbrev F0 :aQ:=⟨qtB⟩
def ct (F:aQ):CT:=fun f ds=>match f,ds with
 |356,[.one (.s 3 os),.fn 357 [[.v (.int .i64 id)]]]=>some (fun _=>Rw [tI,tI,tI] os/\os.length<=1099511627776,[.k (F.qtB os id)])
 |_,_=>none
theorem ai :aS (ct F0):=by
 intro f ds pre res h hp;unfold ct at h;split at h<;>cases h
 exact bQ hp
abbrev B :cy:=tb ai
end Lg3
theorem jY {os:aa}{id:Int}(hp:Rw [tI,tI,tI] os/\os.length<=1099511627776):au 335 [.one (.s 3 os),.j id] [.k (qtB os id)]:=by
 refine cb Lg3.B Tryz.func335 ?_
 exact Ti
namespace Lg4
structure aQ where
 qtB:aa->Int->Bool
abbrev F0 :aQ:=⟨qtB⟩
def ct (F:aQ):CT:=fun f ds=>match f,ds with
 |335,[.one (.s 3 os),.one (.v (.int .i64 id))]=>some (fun _=>Rw [tI,tI,tI] os/\os.length<=1099511627776,[.k (F.qtB os id)])
 |_,_=>none
theorem ai :aS (ct F0):=by
 intro f ds pre res h hp;unfold ct at h;split at h<;>cases h
 exact jY hp
abbrev B :cy:=tb ai
end Lg4
theorem uk {rm:Int}{os:aa}{id:Int}(hp:Rw [tI,tI,tI] os/\os.length<=1099511627776):au 242 [.agg [.i rm,.s 3 os],.j id] [.k (qtB os id)]:=by
 obtain⟨hw,hn⟩:=hp;have hm:=hw.1;unfold maxLen at hm;refine cb Lg4.B Tryz.func242 ?_
 intro O r F hO hr hF;cbv
 repeat' first|apply And.intro|(apply be<;>intro hb<;>cbv)|(refine⟨[1,2,5],[2],Int,fun i=>[.reg 5 (.j i)],fun i=>0<=i/\i<=((os.length:Nat):Int)/\upto (cg (xc os id)) i,fun i=>(os.length)-i.toNat,⟨0,?_,?_⟩,?_⟩;rotate_left;(focus (cbv;done));intro i hi;replace hi:0<=i/\i<=((os.length:Nat):Int)/\upto (cg (xc os id)) i:=hi;obtain⟨i0,i1,i2⟩:=hi;cbv)|(refine ab (O.ar .add .i64 i 1) ?_ ?_ ?_;focus (cbv;done))
 all_goals(subst hO hr hF;(try simp only[nc]at*);(try simp only[aj,SS,sa,az]at*);(try rw[cv (by omega) (by omega)]))
 all_goals first
  | (show(_:List DV)=_
     first
      |(refine ak ?_;symm;exact NV i2 i0 (by assumption) (by assumption))
      |(refine ak ?_;symm;exact RD i2 (by omega))
      |done)
  |omega
  |exact eR
  |exact bi
  |exact aV i2 (eW (show xc os id i=false from qo (by assumption)))
  |done
end Go.V