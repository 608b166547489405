/- Contracts. -/
import Derived.Test.YticfhgfgobafbaaGreatLayFm
set_option linter.all false
namespace Go.V
open Go Go.Proofs
set_option maxRecDepth 1000000
set_option maxHeartbeats 8000000
theorem kR {d0 d1 d2 ad:Int}(hp:True):ao 188 [.agg [.i d0,.i d1,.i d2],.ptr [.i ad]] [.k (eqB d0 ad)]:=by
 refine cb nB Tryz.func188 ?_
 exact LP
namespace Lg1
structure aO where
 eqB:Int->Int->Bool
abbrev F0 :aO:=⟨eqB⟩
def ct (F:aO):CT:=fun f ds=>match f,ds with
 |188,[.agg [.v (.int .i64 d0),.v (.int .i64 d1),.v (.int .i64 d2)],.ptr [.v (.int .i64 ad)]]=>some (fun _=>True,[.k (F.eqB d0 ad)])
 |_,_=>none
theorem aj :aR (ct F0):=by
 intro f ds pre res h hp;unfold ct at h;split at h<;>cases h
 exact kR hp
abbrev B :cD:=tb aj
end Lg1
theorem bL {os:aa}{id:Int}(hp:Rw [tI,tI,tI] os/\os.length<=1099511627776):ao 231 [.one (.s 3 os),.fn 188 [[.i id]]] [.j (qtI os id)]:=by
 obtain⟨hw,hn⟩:=hp;refine cb Lg1.B Tryz.func231 ?_
 intro O r F hO hr hF;cbv
 repeat' first|apply And.intro|(apply bi<;>intro hb<;>cbv)|(refine⟨[0,1,7,8],[0],Int,fun i=>[.reg 8 (.j i)],fun i=>0<=i/\i<=((os.length:Nat):Int)/\upto (bY (rc os id)) i,fun i=>(os.length)-i.toNat,⟨0,?_,?_⟩,?_⟩;rotate_left;(focus (cbv;done));intro i hi;replace hi:0<=i/\i<=((os.length:Nat):Int)/\upto (bY (rc os id)) i:=hi;obtain⟨i0,i1,i2⟩:=hi;cbv)|(refine ab (O.ar .add .i64 i 1) ?_ ?_ ?_;focus (cbv;done))
 all_goals(subst hO hr hF;(try simp only[nc]at*);(try simp only[ai,SS,sa,az]at*);(try rw[cB (by omega) (by omega)]))
 all_goals first
  | (show(_:List DV)=_
     first
      |exact cr (cN i2 i0 (by assumption) (show rc os id i=true from by assumption)).symm
      |exact cr (cO i2 (by assumption)).symm
      |done)
  |omega
  |exact eZ
  |(show(lk _ _).isSome=true;kernel_rfl)
  |exact aY
  |exact aP i2 (fB (show rc os id i=false from by assumption))
  |done
namespace Lg2
structure aO where
 qtI:aa->Int->Int
abbrev F0 :aO:=⟨qtI⟩
def ct (F:aO):CT:=fun f ds=>match f,ds with
 |231,[.one (.s 3 os),.fn 188 [[.v (.int .i64 id)]]]=>some (fun _=>Rw [tI,tI,tI] os/\os.length<=1099511627776,[.j (F.qtI os id)])
 |_,_=>none
theorem aj :aR (ct F0):=by
 intro f ds pre res h hp;unfold ct at h;split at h<;>cases h
 exact bL hp
abbrev B :cD:=tb aj
end Lg2
theorem bG {os:aa}{id:Int}(hp:Rw [tI,tI,tI] os/\os.length<=1099511627776):ao 187 [.one (.s 3 os),.fn 188 [[.i id]]] [.k (qtB os id)]:=by
 refine cb Lg2.B Tryz.func187 ?_
 intro O r F hO hr hF;cbv
 repeat' first|apply And.intro|(apply bi<;>intro hb<;>cbv)
 all_goals(subst hO hr hF;(try simp only[nc]at*);(try simp only[ai,SS,sa,az]at*))
 all_goals first
  | (show(_:List DV)=_
     first
      |exact ag (dr (by unfold qtB;simp only[SS,decide_eq_true_eq]))
      |done)
  |exact hp
  |done
namespace Lg3
structure aO where
 qtB:aa->Int->Bool
abbrev F0 :aO:=⟨qtB⟩
def ct (F:aO):CT:=fun f ds=>match f,ds with
 |187,[.one (.s 3 os),.fn 188 [[.v (.int .i64 id)]]]=>some (fun _=>Rw [tI,tI,tI] os/\os.length<=1099511627776,[.k (F.qtB os id)])
 |_,_=>none
theorem aj :aR (ct F0):=by
 intro f ds pre res h hp;unfold ct at h;split at h<;>cases h
 exact bG hp
abbrev B :cD:=tb aj
end Lg3
theorem iq {os:aa}{id:Int}(hp:Rw [tI,tI,tI] os/\os.length<=1099511627776):ao 119 [.one (.s 3 os),.j id] [.k (qtB os id)]:=by
 refine cb Lg3.B Tryz.func119 ?_
 exact LV
namespace Lg4
structure aO where
 qtB:aa->Int->Bool
abbrev F0 :aO:=⟨qtB⟩
def ct (F:aO):CT:=fun f ds=>match f,ds with
 |119,[.one (.s 3 os),.one (.v (.int .i64 id))]=>some (fun _=>Rw [tI,tI,tI] os/\os.length<=1099511627776,[.k (F.qtB os id)])
 |_,_=>none
theorem aj :aR (ct F0):=by
 intro f ds pre res h hp;unfold ct at h;split at h<;>cases h
 exact iq hp
abbrev B :cD:=tb aj
end Lg4
theorem pP {rm:Int}{os:aa}{id:Int}(hp:Rw [tI,tI,tI] os/\os.length<=1099511627776):ao 43 [.agg [.i rm,.s 3 os],.j id] [.k (qtB os id)]:=by
 refine cb Lg4.B Tryz.func43 ?_
 exact ER
theorem qB {rm:Int}{os:aa}{id:Int}(hp:Rw [tI,tI,tI] os/\os.length<=1099511627776):ao 144 [.agg [.i rm,.s 3 os],.j id] [.k (qtB os id)]:=by
 obtain⟨hw,hn⟩:=hp;have hm:=hw.1;unfold maxLen at hm;refine cb Lg4.B Tryz.func144 ?_
 intro O r F hO hr hF;cbv
 repeat' first|apply And.intro|(apply bi<;>intro hb<;>cbv)|(refine⟨[1,2,5],[2],Int,fun i=>[.reg 5 (.j i)],fun i=>0<=i/\i<=((os.length:Nat):Int)/\upto (bY (rc os id)) i,fun i=>(os.length)-i.toNat,⟨0,?_,?_⟩,?_⟩;rotate_left;(focus (cbv;done));intro i hi;replace hi:0<=i/\i<=((os.length:Nat):Int)/\upto (bY (rc os id)) i:=hi;obtain⟨i0,i1,i2⟩:=hi;cbv)|(refine ab (O.ar .add .i64 i 1) ?_ ?_ ?_;focus (cbv;done))
 all_goals(subst hO hr hF;(try simp only[nc]at*);(try simp only[ai,SS,sa,az]at*);(try rw[cB (by omega) (by omega)]))
 all_goals first
  | (show(_:List DV)=_
     first
      |(refine ag ?_;symm;exact H9 i2 i0 (by assumption) (by assumption))
      |(refine ag ?_;symm;exact K8 i2 (by omega))
      |done)
  |omega
  |exact eZ
  |exact aY
  |exact aP i2 (fB (show rc os id i=false from qS (by assumption)))
  |done
end Go.V