/- Contracts. -/
import Derived.Test.YticfhgfgobafbaaGreatLayJm
set_option linter.all false
namespace Go.V
open Go Go.Proofs
set_option maxRecDepth 1000000
set_option maxHeartbeats 8000000
namespace Lk0
structure aO where
 chB:aa->Int->Bool
abbrev F0 :aO:=⟨chB⟩
def ct (F:aO):CT:=fun f ds=>match f,ds with
 |41,[.agg [.s 1 os],.one (.v (.int .i64 id))]=>some (fun _=>xg os,[.k (F.chB os id)])
 |_,_=>none
theorem aj :aR (ct F0):=by
 intro f ds pre res h hp;unfold ct at h;split at h<;>cases h
 exact nL hp
abbrev B :cD:=tb aj
end Lk0
theorem pN {l:aa}{ad:Int}(hp:xg l):ao 40 [.agg [.s 1 l],.ptr [.i ad]] [.k (chB l ad)]:=by
 refine cb Lk0.B Tryz.func40 ?_
 exact ER
namespace Lk1
structure aO where
 chB:aa->Int->Bool
abbrev F0 :aO:=⟨chB⟩
def ct (F:aO):CT:=fun f ds=>match f,ds with
 |40,[.agg [.s 1 l],.ptr [.v (.int .i64 ad)]]=>some (fun _=>xg l,[.k (F.chB l ad)])
 |_,_=>none
theorem aj :aR (ct F0):=by
 intro f ds pre res h hp;unfold ct at h;split at h<;>cases h
 exact pN hp
abbrev B :cD:=tb aj
end Lk1
theorem bJ {os:aa}{id:Int}(hp:IF os):ao 114 [.one (.s 1 os),.fn 40 [[.i id]]] [.j (lkI os id)]:=by
 have hw:=hp.w;have hn:=hp.l;refine cb Lk1.B Tryz.func114 ?_
 intro O r F hO hr hF;cbv
 repeat' first|apply And.intro|(apply bi<;>intro hb<;>cbv)|(refine⟨[0,1,7,8],[0],Int,fun i=>[.reg 8 (.j i)],fun i=>0<=i/\i<=((os.length:Nat):Int)/\upto (bY (Af os id)) i,fun i=>(os.length)-i.toNat,⟨0,?_,?_⟩,?_⟩;rotate_left;(focus (cbv;done));intro i hi;replace hi:0<=i/\i<=((os.length:Nat):Int)/\upto (bY (Af os id)) i:=hi;obtain⟨i0,i1,i2⟩:=hi;cbv)|(refine ab (O.ar .add .i64 i 1) ?_ ?_ ?_;focus (cbv;done))
 all_goals(subst hO hr hF;(try simp only[nc]at*);(try simp only[ai,SS,sa,az]at*);(try rw[cB (by omega) (by omega)]))
 all_goals first
  | (show(_:List DV)=_
     first
      |exact cr (cN i2 i0 (by assumption) (show Af os id i=true from by assumption)).symm
      |exact cr (cO i2 (by assumption)).symm
      |done)
  |omega
  |exact eZ
  |exact hp.n i i0 (by assumption)
  |(show(lk _ _).isSome=true;kernel_rfl)
  |exact aY
  |exact aP i2 (fB (show Af os id i=false from by assumption))
  |exact⟨trivial,trivial⟩
  |trivial
  |done
namespace Lk2
structure aO where
 lkI:aa->Int->Int
abbrev F0 :aO:=⟨lkI⟩
def ct (F:aO):CT:=fun f ds=>match f,ds with
 |114,[.one (.s 1 os),.fn 40 [[.v (.int .i64 id)]]]=>some (fun _=>IF os,[.j (F.lkI os id)])
 |_,_=>none
theorem aj :aR (ct F0):=by
 intro f ds pre res h hp;unfold ct at h;split at h<;>cases h
 exact bJ hp
abbrev B :cD:=tb aj
end Lk2
theorem bE {os:aa}{id:Int}(hp:IF os):ao 39 [.one (.s 1 os),.fn 40 [[.i id]]] [.k (lkB os id)]:=by
 refine cb Lk2.B Tryz.func39 ?_
 intro O r F hO hr hF;cbv
 repeat' first|apply And.intro|(apply bi<;>intro hb<;>cbv)
 all_goals(subst hO hr hF;(try simp only[nc]at*);(try simp only[ai,SS,sa,az]at*))
 all_goals first
  | (show(_:List DV)=_
     first
      |exact ag (decide_eq_true (by assumption)).symm
      |exact ag (decide_eq_false (by omega)).symm
      |exact ag (dr (by unfold lkB;simp only[SS,decide_eq_true_eq]))
      |exact rfl
      |done)
  |exact hp
  |exact rfl
  |trivial
  |done
end Go.V