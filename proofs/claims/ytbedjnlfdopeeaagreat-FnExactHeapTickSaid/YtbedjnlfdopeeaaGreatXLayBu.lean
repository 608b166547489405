/- Contracts. -/
import Derived.Test.YtbedjnlfdopeeaaGreatXLayAu
set_option linter.all false
open Go
open And renaming intro->Zb
open IntKind renaming i64->Za
open List renaming length_cons->Zq,length_nil->Zz
open True renaming intro->Zk
namespace Go.V
open Go Go.Proofs
set_option maxRecDepth 1000000
set_option maxHeartbeats 8000000
theorem fw {l:aa}{x:Int}(hp:Rw [tI] l):ap 260 [.one (.s 1 l),.j x] [.k (hasB l x)]:=by
 have hw:=hp;have hm:=hw.1;unfold maxLen at hm;refine cb nB Tryz.func260 ?_
 intro O r F hO hr hF;cbv
 repeat' first|apply Zb|(apply bu<;>intro hb<;>cbv)|(refine⟨[0,1,5],[],Int,fun i=>[.reg 5 (.j i)],fun i=>0<=i/\i<=((l.length:Nat):Int)/\upto (cv (Kr l x)) i,fun i=>(l.length)-i.toNat,⟨0,?_,?_⟩,?_⟩;rotate_left;(focus (cbv;done));intro i hi;replace hi:0<=i/\i<=((l.length:Nat):Int)/\upto (cv (Kr l x)) i:=hi;obtain⟨i0,i1,i2⟩:=hi;cbv)|(refine ab (O.ar .add Za i 1) ?_ ?_ ?_;focus (cbv;done))
 all_goals(subst hO hr hF;(try simp only[nc]at*);(try simp only[ak,SS,sa,az]at*);(try rw[cy (by omega) (by omega)]))
 all_goals first
  | (show(_:List DV)=_
     first
      |(refine ai ?_;symm;rw[CR];exact⟨i.toNat,by omega,by rw[Int.toNat_of_nonneg i0];assumption⟩)
      |(refine ai ?_;symm;exact Mi i2 (by omega))
      |done)
  |omega
  |exact eF
  |exact bC
  |exact aW i2 (by unfold cv Kr;rw[wW (fun e=>absurd e.symm (by assumption))];rfl)
  |done
theorem mD {pg:Int}{es:aa}(hp:True):jV 226 [.j pg,.mp [.own (.m true es)]] [[.own (.m true (muT es pg))]] [.k (!(mgbI es pg))]:=by
 refine pb nB Tryz.func226 ?_
 intro O r os F hO hr hos hF;cbv
 repeat' first|apply Zb|(apply bu<;>intro hb<;>cbv)
 all_goals((try subst hos);subst hO hr hF;(try simp only[nc]at*);(try simp only[ak,SS,sa,az]at*))
 all_goals first|(show(_:List DV)=_;exact rfl)|(show(_:List H)=_;exact rfl)|done
namespace Lb1
structure aP where
 spOk:Int->Int->Int->Bool
 lgOk:Int->Int->Int->Bool
 hasB:aa->Int->Bool
abbrev F0:aP:=⟨spOk,lgOk,hasB⟩
def ct (F:aP):CT:=fun f ds=>match f,ds with
 |259,[.agg [.v (.int Za p),.v (.int Za k),.v (.int Za b)]]=>some (fun _=>True,[.k (F.spOk p k b)])
 |261,[.agg [.v (.int Za p),.v (.int Za n),.v (.int Za s)]]=>some (fun _=>True,[.k (F.lgOk p n s)])
 |260,[.one (.s 1 l),.one (.v (.int Za x))]=>some (fun _=>Rw [tI] l,[.k (F.hasB l x)])
 |_,_=>none
theorem aj:aT (ct F0):=by
 intro f ds pre res h hp;unfold ct at h;split at h<;>cases h
 exact ez hp;exact j7 hp;exact fw hp
abbrev B:cF:=tb aj
end Lb1
theorem fU {sp lg:aa}(hp:Rw [tI,tI,tI] sp/\Rw [tI,tI,tI] lg/\sp.length<=1073741824/\lg.length<=1073741824):ap 166 [.one (.s 3 sp),.one (.s 3 lg)] [.k (layOk sp lg)]:=by
 obtain⟨hs,hl,ns,nl⟩:=hp;refine cb Lb1.B Tryz.func166 ?_
 intro O r F hO hr hF;cbv
 repeat' first|apply Zb|(apply bu<;>intro hb<;>cbv)|(refine⟨[0,1,5,6],[5],Int×aa,fun s_=>match s_ with|(i,o)=>[.reg 6 (.j i),.reg 5 (.one (.vw 5 0 0 0 (O.ln o))),.leaf 5 0 ⟨0,0,none,.own (.s 1 o)⟩],fun s_=>match s_ with|(i,o)=>0<=i/\i<=(sp.length:Int)/\HT sp i o,fun s_=>match s_ with|(i,o)=>sp.length-i.toNat,⟨(0,[]),?_,?_⟩,?_⟩;rotate_left;(focus (cbv;done));intro s_ hi;obtain⟨i,o⟩:=s_;replace hi:0<=i/\i<=(sp.length:Int)/\HT sp i o:=hi;obtain⟨i0,i1,i2⟩:=hi;cbv)|(refine⟨[1,5,7],[5],Int×aa,fun s_=>match s_ with|(j,o1)=>[.reg 7 (.j j),.reg 5 (.one (.vw 5 0 0 0 (O.ln o1))),.leaf 5 0 ⟨0,0,none,.own (.s 1 o1)⟩],fun s_=>match s_ with|(j,o1)=>0<=j/\j<=(lg.length:Int)/\Og sp lg j o1,fun s_=>match s_ with|(j,o1)=>lg.length-j.toNat,⟨(0,o),?_,?_⟩,?_⟩;rotate_left;(focus (cbv;done));intro s_ hj;obtain⟨j,o1⟩:=s_;replace hj:0<=j/\j<=(lg.length:Int)/\Og sp lg j o1:=hj;obtain⟨j0,j1,j2⟩:=hj;cbv)|(refine⟨[1,5,7,8],[5],Int×aa,fun s_=>match s_ with|(k,o2)=>[.reg 8 (.j k),.reg 5 (.one (.vw 5 0 0 0 (O.ln o2))),.leaf 5 0 ⟨0,0,none,.own (.s 1 o2)⟩],fun s_=>match s_ with|(k,o2)=>0<=k/\k<=ag lg j 1/\HS sp lg j k o2,fun s_=>match s_ with|(k,o2)=>(ag lg j 1-k).toNat,⟨(0,o1),?_,?_⟩,?_⟩;rotate_left;(focus (cbv;done));intro s_ hk;obtain⟨k,o2⟩:=s_;replace hk:0<=k/\k<=ag lg j 1/\HS sp lg j k o2:=hk;obtain⟨k0,k1,k2⟩:=hk;cbv)|(refine ab (O.ar .add Za k 1,O.cat o2 (O.sub [[.i (O.ar .add Za (O.gi lg j 0) k)]] 0 (O.ln [[.i (O.ar .add Za (O.gi lg j 0) k)]]))) ?_ ?_ ?_;focus (cbv;done))|(refine ab (O.ar .add Za j 1,o2) ?_ ?_ ?_;focus (cbv;done))|(refine ab (O.ar .add Za i 1,O.cat o (O.sub [[.i (O.gi sp i 0)]] 0 (O.ln [[.i (O.gi sp i 0)]]))) ?_ ?_ ?_;focus (cbv;done))
 all_goals(subst hO hr hF;(try simp only[nc]at*);(try simp only[ak,SS,sa,az]at*);(try rw[cy (by omega) (by omega)]);(try have z:=(Qh (k:=k) (by assumption) k0 (by assumption)));(try(obtain⟨z1,z2,z3,z4,z5⟩:=z));(try have z6:bK .add Za k 1=k+1:=bh (by omega));(try simp only[z3]at*);(try simp only[z6]at*))
 all_goals first
  | (show(_:List DV)=_
     first
      |(refine ai ?_;symm;exact C3 i0 (by assumption) (by assumption))
      |(refine ai ?_;symm;exact MY i2 i0 (by assumption) (by assumption))
      |(refine ai ?_;symm;exact C4 j0 (by assumption) (by assumption))
      |(refine ai ?_;symm;exact MU k2 j0 (by assumption) k0 (by assumption) (by assumption))
      |(refine ai ?_;symm;exact MW j2 j1 (by assumption))
      |done)
  |omega
  |exact eF
  |exact Qn i2 (by omega)
  |exact Qj k2 (by omega) (by omega) (by omega)
  |(have q:=Gf i2;constructor<;>(simp only[Zq,Zz];omega))
  |(have q:=Ge k2;constructor<;>(simp only[Zq,Zz];omega))
  |exact Qo i2 i0 (by assumption) (by assumption)
  |exact Qk k2 k0 (by omega) (by assumption)
  |exact MV k2 j0 (by assumption) k0 k1 (by assumption)
  |exact Ug j2
  |exact MZ i2 i1 (by assumption)
  |exact Uh
  |exact⟨Zk,Zk⟩
  |(have t:=iu (by assumption);have b:=gV t.1;omega)
  |done
end Go.V