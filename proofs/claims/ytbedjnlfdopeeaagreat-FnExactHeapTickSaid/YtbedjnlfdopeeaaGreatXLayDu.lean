/- Contracts. -/
import Derived.Test.YtbedjnlfdopeeaaGreatXLayCu
set_option linter.all false
open Go
open And renaming intro->Zb
open IntKind renaming i64->Za
namespace Go.V
open Go Go.Proofs
set_option maxRecDepth 1000000
set_option maxHeartbeats 8000000
namespace Ld1
structure aP where
 saS:Int->Int->Int->Int->Int
 saO:Int->Int->Int->Int->Int
 hsB:Int->Int->Bool
 lhB:Int->Int->Int->Int->Bool
 loI:Int->Int->Int->Int->Int
 layOk:aa->aa->Bool
abbrev F0:aP:=⟨saS,saO,hsB,lhB,loI,layOk⟩
def ct (F:aP):CT:=fun f ds=>match f,ds with
 |241,[.agg [.v (.int Za p),.v (.int Za k),.v (.int Za b)],.one (.v (.int Za a))]=>some (fun _=>True,[.j (F.saS p k b a),.j (F.saO p k b a)])
 |242,[.one (.v (.int Za b)),.one (.v (.int Za i))]=>some (fun _=>True,[.k (F.hsB b i)])
 |243,[.agg [.v (.int Za p),.v (.int Za n),.v (.int Za s)],.one (.v (.int Za a))]=>some (fun _=>True,[.k (F.lhB p n s a)])
 |244,[.agg [.v (.int Za p),.v (.int Za n),.v (.int Za s)],.one (.v (.int Za a))]=>some (fun _=>True,[.j (F.loI p n s a)])
 |166,[.one (.s 3 sp),.one (.s 3 lg)]=>some (fun _=>Rw [tI,tI,tI] sp/\Rw [tI,tI,tI] lg/\sp.length<=1073741824/\lg.length<=1073741824,[.k (F.layOk sp lg)])
 |213,[.agg [.v (.int Za p),.v (.int Za k),.v (.int Za b)],.one (.v (.int Za a))]=>some (fun _=>(-9223372036854775808<=a/\a<=9223372036854775807),[.j (F.saS p k b a),.j (F.saO p k b a)])
 |305,[.one (.v (.int Za b)),.one (.v (.int Za i))]=>some (fun _=>True,[.k (F.hsB b i)])
 |334,[.agg [.v (.int Za p),.v (.int Za n),.v (.int Za s)],.one (.v (.int Za a))]=>some (fun _=>True,[.k (F.lhB p n s a)])
 |335,[.agg [.v (.int Za p),.v (.int Za n),.v (.int Za s)],.one (.v (.int Za a))]=>some (fun _=>True,[.j (F.loI p n s a)])
 |_,_=>none
theorem aj:aT (ct F0):=by
 intro f ds pre res h hp;unfold ct at h;split at h<;>cases h
 exact vT hp;exact eP hp;exact jE hp;exact lQ hp;exact fU hp;exact lK hp;exact gA hp;exact jK hp;exact lW hp
abbrev B:cF:=tb aj
end Ld1
theorem gu {sp lg:aa}{a:Int}(hp:Rw [tI,tI,tI] sp/\Rw [tI,tI,tI] lg):ap 137 [.one (.s 3 sp),.one (.s 3 lg),.j a] [.agg [.i (dnK sp lg a),.i (dnI sp lg a),.i (dnS sp a),.i (dnO sp lg a)]]:=by
 obtain⟨hs,hl⟩:=hp;have ms:=hs.1;unfold maxLen at ms;have ml:=hl.1;unfold maxLen at ml;refine cb Ld1.B Tryz.func137 ?_
 intro O r F hO hr hF;cbv
 repeat' first|apply Zb|(apply bu<;>intro hb<;>cbv)|(refine⟨[1,2,6,14,15,16],[6],Int,fun i=>[.reg 16 (.j i)],fun i=>0<=i/\i<=((sp.length:Nat):Int)/\upto (cv (wJ sp a)) i,fun i=>(sp.length)-i.toNat,⟨0,?_,?_⟩,?_⟩;rotate_left;(focus (cbv;done));intro i hi;replace hi:0<=i/\i<=((sp.length:Nat):Int)/\upto (cv (wJ sp a)) i:=hi;obtain⟨i0,i1,i2⟩:=hi;cbv)|(refine ab (O.ar .add Za i 1) ?_ ?_ ?_;focus (cbv;done))|(refine⟨[2,6,39,40,41],[6],Int,fun j=>[.reg 41 (.j j)],fun j=>0<=j/\j<=((lg.length:Nat):Int)/\upto (cv (Ap lg a)) j,fun j=>(lg.length)-j.toNat,⟨0,?_,?_⟩,?_⟩;rotate_left;(focus (cbv;done));intro j hj;replace hj:0<=j/\j<=((lg.length:Nat):Int)/\upto (cv (Ap lg a)) j:=hj;obtain⟨j0,j1,j2⟩:=hj;cbv)|(refine ab (O.ar .add Za j 1) ?_ ?_ ?_;focus (cbv;done))
 all_goals(subst hO hr hF;(try simp only[nc]at*);(try simp only[ak,SS,sa,az]at*);(try rw[cy (by omega) (by omega)]))
 all_goals first
  | (show(_:List DV)=_
     first
      |exact Vz i2 i0 (by assumption) (by assumption) (by assumption)
      |exact VA i2 i0 (by assumption) (by assumption) (by assumption)
      |exact VB i2 (by assumption) j2 j0 (by assumption) (by assumption)
      |exact VC i2 (by assumption) j2 (by assumption)
      |done)
  |omega
  |exact eF
  |exact RO i2 (by assumption)
  |exact Qd j2 (by assumption)
  |exact bC
  |done
theorem gz {sp lg:aa}{a:Int}(hp:Rw [tI,tI,tI] sp/\Rw [tI,tI,tI] lg/\sp.length<=1073741824/\lg.length<=1073741824/\ -9223372036854775808<=a/\a<=9223372036854775807):ap 268 [.one (.s 3 sp),.one (.s 3 lg),.j a] [.agg [.i (dzK sp lg a),.i (dzI sp lg a),.i (dzS sp lg a),.i (dzO sp lg a)]]:=by
 obtain⟨hs,hl,ns,nl,a0,a1⟩:=hp;refine cb Ld1.B Tryz.func268 ?_
 intro O r F hO hr hF;cbv
 repeat' first|apply Zb|(apply bu<;>intro hb<;>cbv)|(refine⟨[0,1,2,6,7],[6],Int,fun i=>[.reg 7 (.j i)],fun i=>0<=i/\i<=((sp.length:Nat):Int)/\upto (cv (wJ sp a)) i,fun i=>(sp.length)-i.toNat,⟨0,?_,?_⟩,?_⟩;rotate_left;(focus (cbv;done));intro i hi;replace hi:0<=i/\i<=((sp.length:Nat):Int)/\upto (cv (wJ sp a)) i:=hi;obtain⟨i0,i1,i2⟩:=hi;cbv)|(refine ab (O.ar .add Za i 1) ?_ ?_ ?_;focus (cbv;done))|(refine⟨[1,2,6,11],[6],Int,fun j=>[.reg 11 (.j j)],fun j=>0<=j/\j<=((lg.length:Nat):Int)/\upto (cv (Ap lg a)) j,fun j=>(lg.length)-j.toNat,⟨0,?_,?_⟩,?_⟩;rotate_left;(focus (cbv;done));intro j hj;replace hj:0<=j/\j<=((lg.length:Nat):Int)/\upto (cv (Ap lg a)) j:=hj;obtain⟨j0,j1,j2⟩:=hj;cbv)|(refine ab (O.ar .add Za j 1) ?_ ?_ ?_;focus (cbv;done))
 all_goals(subst hO hr hF;(try simp only[nc]at*);(try simp only[ak,SS,sa,az]at*);(try rw[cy (by omega) (by omega)]))
 all_goals first
  | (show(_:List DV)=_
     first
      |exact Eq.trans (Vz i2 i0 (by assumption) (by assumption) (by assumption)) (Ik (by assumption))
      |exact Eq.trans (VA i2 i0 (by assumption) (by assumption) (by assumption)) (Ik (by assumption))
      |exact Eq.trans (VB i2 (by assumption) j2 j0 (by assumption) (by assumption)) (Ik (by assumption))
      |exact Eq.trans (VC i2 (by assumption) j2 (by assumption)) (Ik (by assumption))
      |exact TE (by assumption)
      |done)
  |omega
  |exact eF
  |exact RO i2 (by assumption)
  |exact Qd j2 (by assumption)
  |exact bC
  |exact⟨hs,hl,ns,nl⟩
  |done
end Go.V