/- Contracts. -/
import Derived.Test.YticfhgfgobafbaaGreatLayGm
set_option linter.all false
namespace Go.V
open Go Go.Proofs
set_option maxRecDepth 1000000
set_option maxHeartbeats 8000000
namespace Lh0
structure aO where
 hasB:aa->Int->Bool
abbrev F0 :aO:=⟨hasB⟩
def ct (F:aO):CT:=fun f ds=>match f,ds with
 |44,[.one (.s 1 l),.one (.v (.int .i64 x))]=>some (fun _=>Rw [tI] l/\l.length<=1099511627776,[.k (F.hasB l x)])
 |_,_=>none
theorem aj :aR (ct F0):=by
 intro f ds pre res h hp;unfold ct at h;split at h<;>cases h
 exact dM hp
abbrev B :cD:=tb aj
end Lh0
theorem kM {l:aa}{ad:Int}(hp:Rw [tI] l/\l.length<=1099511627776):ao 116 [.one (.s 1 l),.ptr [.i ad]] [.k (hasB l ad)]:=by
 refine cb Lh0.B Tryz.func116 ?_
 exact ER
namespace Lh1
structure aO where
 hasB:aa->Int->Bool
abbrev F0 :aO:=⟨hasB⟩
def ct (F:aO):CT:=fun f ds=>match f,ds with
 |116,[.one (.s 1 l),.ptr [.v (.int .i64 ad)]]=>some (fun _=>Rw [tI] l/\l.length<=1099511627776,[.k (F.hasB l ad)])
 |_,_=>none
theorem aj :aR (ct F0):=by
 intro f ds pre res h hp;unfold ct at h;split at h<;>cases h
 exact kM hp
abbrev B :cD:=tb aj
end Lh1
theorem fq {os:aa}{id:Int}(hp:xg os):ao 186 [.one (.s 1 os),.fn 116 [[.i id]]] [.j (chI os id)]:=by
 have hw:=hp.w;have hn:=hp.l;refine cb Lh1.B Tryz.func186 ?_
 intro O r F hO hr hF;cbv
 repeat' first|apply And.intro|(apply bi<;>intro hb<;>cbv)|(refine⟨[0,1,7,8],[0],Int,fun i=>[.reg 8 (.j i)],fun i=>0<=i/\i<=((os.length:Nat):Int)/\upto (bY (BF os id)) i,fun i=>(os.length)-i.toNat,⟨0,?_,?_⟩,?_⟩;rotate_left;(focus (cbv;done));intro i hi;replace hi:0<=i/\i<=((os.length:Nat):Int)/\upto (bY (BF os id)) i:=hi;obtain⟨i0,i1,i2⟩:=hi;cbv)|(refine ab (O.ar .add .i64 i 1) ?_ ?_ ?_;focus (cbv;done))
 all_goals(subst hO hr hF;(try simp only[nc]at*);(try simp only[ai,SS,sa,az]at*);(try rw[cB (by omega) (by omega)]))
 all_goals first
  | (show(_:List DV)=_
     first
      |exact cr (cN i2 i0 (by assumption) (show BF os id i=true from by assumption)).symm
      |exact cr (cO i2 (by assumption)).symm
      |done)
  |omega
  |exact eZ
  |exact hp.el i0 (by assumption)
  |(show(lk _ _).isSome=true;kernel_rfl)
  |exact aY
  |exact aP i2 (fB (show BF os id i=false from by assumption))
  |exact⟨trivial,trivial⟩
  |trivial
  |done
namespace Lh2
structure aO where
 chI:aa->Int->Int
abbrev F0 :aO:=⟨chI⟩
def ct (F:aO):CT:=fun f ds=>match f,ds with
 |186,[.one (.s 1 os),.fn 116 [[.v (.int .i64 id)]]]=>some (fun _=>xg os,[.j (F.chI os id)])
 |_,_=>none
theorem aj :aR (ct F0):=by
 intro f ds pre res h hp;unfold ct at h;split at h<;>cases h
 exact fq hp
abbrev B :cD:=tb aj
end Lh2
theorem eO {os:aa}{id:Int}(hp:xg os):ao 115 [.one (.s 1 os),.fn 116 [[.i id]]] [.k (chB os id)]:=by
 refine cb Lh2.B Tryz.func115 ?_
 intro O r F hO hr hF;cbv
 repeat' first|apply And.intro|(apply bi<;>intro hb<;>cbv)
 all_goals(subst hO hr hF;(try simp only[nc]at*);(try simp only[ai,SS,sa,az]at*))
 all_goals first
  | (show(_:List DV)=_
     first
      |exact ag (decide_eq_true (by assumption)).symm
      |exact ag (decide_eq_false (by omega)).symm
      |exact ag (dr (by unfold chB;simp only[SS,decide_eq_true_eq]))
      |exact rfl
      |done)
  |exact hp
  |exact rfl
  |trivial
  |done
namespace Lh3
structure aO where
 chB:aa->Int->Bool
abbrev F0 :aO:=⟨chB⟩
def ct (F:aO):CT:=fun f ds=>match f,ds with
 |115,[.one (.s 1 os),.fn 116 [[.v (.int .i64 id)]]]=>some (fun _=>xg os,[.k (F.chB os id)])
 |_,_=>none
theorem aj :aR (ct F0):=by
 intro f ds pre res h hp;unfold ct at h;split at h<;>cases h
 exact eO hp
abbrev B :cD:=tb aj
end Lh3
theorem nL {os:aa}{id:Int}(hp:xg os):ao 41 [.agg [.s 1 os],.j id] [.k (chB os id)]:=by
 refine cb Lh3.B Tryz.func41 ?_
 exact ER
end Go.V