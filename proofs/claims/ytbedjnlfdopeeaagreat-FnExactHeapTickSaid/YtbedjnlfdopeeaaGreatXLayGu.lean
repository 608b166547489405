/- Contracts. -/
import Derived.Test.YtbedjnlfdopeeaaGreatXLayFu
set_option linter.all false
open Go
open And renaming intro->Zb
open IntKind renaming i64->Za
namespace Go.V
open Go Go.Proofs
set_option maxRecDepth 1000000
set_option maxHeartbeats 8000000
theorem mI {d0 d1 d2 ad:Int}(hp:True):ap 341 [.agg [.i d0,.i d1,.i d2],.ptr [.i ad]] [.k (eqB d0 ad)]:=by
 refine cb nB Tryz.func341 ?_
 exact SY
namespace Lg1
structure aP where
 eqB:Int->Int->Bool
abbrev F0:aP:=⟨eqB⟩
def ct (F:aP):CT:=fun f ds=>match f,ds with
 |341,[.agg [.v (.int Za d0),.v (.int Za d1),.v (.int Za d2)],.ptr [.v (.int Za ad)]]=>some (fun _=>True,[.k (F.eqB d0 ad)])
 |_,_=>none
theorem aj:aT (ct F0):=by
 intro f ds pre res h hp;unfold ct at h;split at h<;>cases h
 exact mI hp
abbrev B:cF:=tb aj
end Lg1
theorem bU {os:aa}{id:Int}(hp:Rw [tI,tI,tI] os/\os.length<=1099511627776):ap 364 [.one (.s 3 os),.fn 341 [[.i id]]] [.j (qtI os id)]:=by
 obtain⟨hw,hn⟩:=hp;refine cb Lg1.B Tryz.func364 ?_
 intro O r F hO hr hF;cbv
 repeat' first|apply Zb|(apply bu<;>intro hb<;>cbv)|(refine⟨[0,1,7,8],[0],Int,fun i=>[.reg 8 (.j i)],fun i=>0<=i/\i<=((os.length:Nat):Int)/\upto (cv (uB os id)) i,fun i=>(os.length)-i.toNat,⟨0,?_,?_⟩,?_⟩;rotate_left;(focus (cbv;done));intro i hi;replace hi:0<=i/\i<=((os.length:Nat):Int)/\upto (cv (uB os id)) i:=hi;obtain⟨i0,i1,i2⟩:=hi;cbv)|(refine ab (O.ar .add Za i 1) ?_ ?_ ?_;focus (cbv;done))
 all_goals(subst hO hr hF;(try simp only[nc]at*);(try simp only[ak,SS,sa,az]at*);(try rw[cy (by omega) (by omega)]))
 all_goals first
  | (show(_:List DV)=_
     first
      |exact cT (dz i2 i0 (by assumption) (show uB os id i=true from by assumption)).symm
      |exact cT (dP i2 (by assumption)).symm
      |done)
  |omega
  |exact eF
  |(show(lk _ _).isSome=true;kernel_rfl)
  |exact bC
  |exact aW i2 (iz (show uB os id i=false from by assumption))
  |done
namespace Lg2
structure aP where
 qtI:aa->Int->Int
abbrev F0:aP:=⟨qtI⟩
def ct (F:aP):CT:=fun f ds=>match f,ds with
 |364,[.one (.s 3 os),.fn 341 [[.v (.int Za id)]]]=>some (fun _=>Rw [tI,tI,tI] os/\os.length<=1099511627776,[.j (F.qtI os id)])
 |_,_=>none
theorem aj:aT (ct F0):=by
 intro f ds pre res h hp;unfold ct at h;split at h<;>cases h
 exact bU hp
abbrev B:cF:=tb aj
end Lg2
theorem bQ {os:aa}{id:Int}(hp:Rw [tI,tI,tI] os/\os.length<=1099511627776):ap 340 [.one (.s 3 os),.fn 341 [[.i id]]] [.k (qtB os id)]:=by
 refine cb Lg2.B Tryz.func340 ?_
 intro O r F hO hr hF;cbv
 repeat' first|apply Zb|(apply bu<;>intro hb<;>cbv)
 all_goals(subst hO hr hF;(try simp only[nc]at*);(try simp only[ak,SS,sa,az]at*))
 all_goals first
  | (show(_:List DV)=_
     first
      |exact ai (er (by unfold qtB;simp only[SS,aa2]))
      |done)
  |exact hp
  |done
namespace Lg3
structure aP where
 qtB:aa->Int->Bool
abbrev F0:aP:=⟨qtB⟩
def ct (F:aP):CT:=fun f ds=>match f,ds with
 |340,[.one (.s 3 os),.fn 341 [[.v (.int Za id)]]]=>some (fun _=>Rw [tI,tI,tI] os/\os.length<=1099511627776,[.k (F.qtB os id)])
 |_,_=>none
theorem aj:aT (ct F0):=by
 intro f ds pre res h hp;unfold ct at h;split at h<;>cases h
 exact bQ hp
abbrev B:cF:=tb aj
end Lg3
theorem jI {os:aa}{id:Int}(hp:Rw [tI,tI,tI] os/\os.length<=1099511627776):ap 281 [.one (.s 3 os),.j id] [.k (qtB os id)]:=by
 refine cb Lg3.B Tryz.func281 ?_
 exact Tc
namespace Lg4
structure aP where
 qtB:aa->Int->Bool
abbrev F0:aP:=⟨qtB⟩
def ct (F:aP):CT:=fun f ds=>match f,ds with
 |281,[.one (.s 3 os),.one (.v (.int Za id))]=>some (fun _=>Rw [tI,tI,tI] os/\os.length<=1099511627776,[.k (F.qtB os id)])
 |_,_=>none
theorem aj:aT (ct F0):=by
 intro f ds pre res h hp;unfold ct at h;split at h<;>cases h
 exact jI hp
abbrev B:cF:=tb aj
end Lg4
theorem tD {rm:Int}{os:aa}{id:Int}(hp:Rw [tI,tI,tI] os/\os.length<=1099511627776):ap 266 [.agg [.i rm,.s 3 os],.j id] [.k (qtB os id)]:=by
 obtain⟨hw,hn⟩:=hp;have hm:=hw.1;unfold maxLen at hm;refine cb Lg4.B Tryz.func266 ?_
 intro O r F hO hr hF;cbv
 repeat' first|apply Zb|(apply bu<;>intro hb<;>cbv)|(refine⟨[1,2,5],[2],Int,fun i=>[.reg 5 (.j i)],fun i=>0<=i/\i<=((os.length:Nat):Int)/\upto (cv (uB os id)) i,fun i=>(os.length)-i.toNat,⟨0,?_,?_⟩,?_⟩;rotate_left;(focus (cbv;done));intro i hi;replace hi:0<=i/\i<=((os.length:Nat):Int)/\upto (cv (uB os id)) i:=hi;obtain⟨i0,i1,i2⟩:=hi;cbv)|(refine ab (O.ar .add Za i 1) ?_ ?_ ?_;focus (cbv;done))
 all_goals(subst hO hr hF;(try simp only[nc]at*);(try simp only[ak,SS,sa,az]at*);(try rw[cy (by omega) (by omega)]))
 all_goals first
  | (show(_:List DV)=_
     first
      |(refine ai ?_;symm;exact Nw i2 i0 (by assumption) (by assumption))
      |(refine ai ?_;symm;exact Rs i2 (by omega))
      |done)
  |omega
  |exact eF
  |exact bC
  |exact aW i2 (iz (show uB os id i=false from wW (by assumption)))
  |done
end Go.V