/- Contracts. -/
import Derived.Test.YtcodmgmliopheaaGreatLayCt
set_option linter.all false
open Go
open And renaming intro->AT
namespace Go.V
open Go Go.Proofs
set_option maxRecDepth 1000000
set_option maxHeartbeats 8000000
namespace Ld1
structure aQ where
 saS:Int->Int->Int->Int->Int
 saO:Int->Int->Int->Int->Int
 hsB:Int->Int->Bool
 lhB:Int->Int->Int->Int->Bool
 loI:Int->Int->Int->Int->Int
 layOk:aa->aa->Bool
abbrev F0 :aQ:=⟨saS,saO,hsB,lhB,loI,layOk⟩
def ct (F:aQ):CT:=fun f ds=>match f,ds with
 |322,[.agg [.v (.int .i64 p),.v (.int .i64 k),.v (.int .i64 b)],.one (.v (.int .i64 a))]=>some (fun _=>True,[.j (F.saS p k b a),.j (F.saO p k b a)])
 |311,[.one (.v (.int .i64 b)),.one (.v (.int .i64 i))]=>some (fun _=>True,[.k (F.hsB b i)])
 |323,[.agg [.v (.int .i64 p),.v (.int .i64 n),.v (.int .i64 s)],.one (.v (.int .i64 a))]=>some (fun _=>True,[.k (F.lhB p n s a)])
 |324,[.agg [.v (.int .i64 p),.v (.int .i64 n),.v (.int .i64 s)],.one (.v (.int .i64 a))]=>some (fun _=>True,[.j (F.loI p n s a)])
 |136,[.one (.s 3 sp),.one (.s 3 lg)]=>some (fun _=>Rw [tI,tI,tI] sp/\Rw [tI,tI,tI] lg/\sp.length<=1073741824/\lg.length<=1073741824,[.k (F.layOk sp lg)])
 |318,[.agg [.v (.int .i64 p),.v (.int .i64 k),.v (.int .i64 b)],.one (.v (.int .i64 a))]=>some (fun _=>(-9223372036854775808<=a/\a<=9223372036854775807),[.j (F.saS p k b a),.j (F.saO p k b a)])
 |371,[.one (.v (.int .i64 b)),.one (.v (.int .i64 i))]=>some (fun _=>True,[.k (F.hsB b i)])
 |372,[.agg [.v (.int .i64 p),.v (.int .i64 n),.v (.int .i64 s)],.one (.v (.int .i64 a))]=>some (fun _=>True,[.k (F.lhB p n s a)])
 |373,[.agg [.v (.int .i64 p),.v (.int .i64 n),.v (.int .i64 s)],.one (.v (.int .i64 a))]=>some (fun _=>True,[.j (F.loI p n s a)])
 |_,_=>none
theorem aj :aR (ct F0):=by
 intro f ds pre res h hp;unfold ct at h;split at h<;>cases h
 exact wn hp;exact ki hp;exact jP hp;exact lZ hp;exact fN hp;exact wT hp;exact tV hp;exact jT hp;exact mf hp
abbrev B :cy:=tb aj
end Ld1
theorem ko {sp lg:aa}{a:Int}(hp:Rw [tI,tI,tI] sp/\Rw [tI,tI,tI] lg):aw 216 [.one (.s 3 sp),.one (.s 3 lg),.j a] [.agg [.i (dnK sp lg a),.i (dnI sp lg a),.i (dnS sp a),.i (dnO sp lg a)]]:=by
 obtain⟨hs,hl⟩:=hp;have ms:=hs.1;unfold maxLen at ms;have ml:=hl.1;unfold maxLen at ml;refine cb Ld1.B Tryz.func216 ?_
 intro O r F hO hr hF;cbv
 repeat' first|apply AT|(apply bi<;>intro hb<;>cbv)|(refine⟨[1,2,6,14,15,16],[6],Int,fun i=>[.reg 16 (.j i)],fun i=>0<=i/\i<=((sp.length:Nat):Int)/\upto (cp (zw sp a)) i,fun i=>(sp.length)-i.toNat,⟨0,?_,?_⟩,?_⟩;rotate_left;(focus (cbv;done));intro i hi;replace hi:0<=i/\i<=((sp.length:Nat):Int)/\upto (cp (zw sp a)) i:=hi;obtain⟨i0,i1,i2⟩:=hi;cbv)|(refine ab (O.ar .add .i64 i 1) ?_ ?_ ?_;focus (cbv;done))|(refine⟨[2,6,39,40,41],[6],Int,fun j=>[.reg 41 (.j j)],fun j=>0<=j/\j<=((lg.length:Nat):Int)/\upto (cp (AL lg a)) j,fun j=>(lg.length)-j.toNat,⟨0,?_,?_⟩,?_⟩;rotate_left;(focus (cbv;done));intro j hj;replace hj:0<=j/\j<=((lg.length:Nat):Int)/\upto (cp (AL lg a)) j:=hj;obtain⟨j0,j1,j2⟩:=hj;cbv)|(refine ab (O.ar .add .i64 j 1) ?_ ?_ ?_;focus (cbv;done))
 all_goals(subst hO hr hF;(try simp only[nc]at*);(try simp only[ah,SS,sa,az]at*);(try rw[cE (by omega) (by omega)]))
 all_goals first
  | (show(_:List DV)=_
     first
      |exact UE i2 i0 (by assumption) (by assumption) (by assumption)
      |exact UF i2 i0 (by assumption) (by assumption) (by assumption)
      |exact UG i2 (by assumption) j2 j0 (by assumption) (by assumption)
      |exact UH i2 (by assumption) j2 (by assumption)
      |done)
  |omega
  |exact fe
  |exact QP i2 (by assumption)
  |exact Pe j2 (by assumption)
  |exact bu
  |done
theorem gw {sp lg:aa}{a:Int}(hp:Rw [tI,tI,tI] sp/\Rw [tI,tI,tI] lg/\sp.length<=1073741824/\lg.length<=1073741824/\ -9223372036854775808<=a/\a<=9223372036854775807):aw 274 [.one (.s 3 sp),.one (.s 3 lg),.j a] [.agg [.i (dzK sp lg a),.i (dzI sp lg a),.i (dzS sp lg a),.i (dzO sp lg a)]]:=by
 obtain⟨hs,hl,ns,nl,a0,a1⟩:=hp;refine cb Ld1.B Tryz.func274 ?_
 intro O r F hO hr hF;cbv
 repeat' first|apply AT|(apply bi<;>intro hb<;>cbv)|(refine⟨[0,1,2,6,7],[6],Int,fun i=>[.reg 7 (.j i)],fun i=>0<=i/\i<=((sp.length:Nat):Int)/\upto (cp (zw sp a)) i,fun i=>(sp.length)-i.toNat,⟨0,?_,?_⟩,?_⟩;rotate_left;(focus (cbv;done));intro i hi;replace hi:0<=i/\i<=((sp.length:Nat):Int)/\upto (cp (zw sp a)) i:=hi;obtain⟨i0,i1,i2⟩:=hi;cbv)|(refine ab (O.ar .add .i64 i 1) ?_ ?_ ?_;focus (cbv;done))|(refine⟨[1,2,6,11],[6],Int,fun j=>[.reg 11 (.j j)],fun j=>0<=j/\j<=((lg.length:Nat):Int)/\upto (cp (AL lg a)) j,fun j=>(lg.length)-j.toNat,⟨0,?_,?_⟩,?_⟩;rotate_left;(focus (cbv;done));intro j hj;replace hj:0<=j/\j<=((lg.length:Nat):Int)/\upto (cp (AL lg a)) j:=hj;obtain⟨j0,j1,j2⟩:=hj;cbv)|(refine ab (O.ar .add .i64 j 1) ?_ ?_ ?_;focus (cbv;done))
 all_goals(subst hO hr hF;(try simp only[nc]at*);(try simp only[ah,SS,sa,az]at*);(try rw[cE (by omega) (by omega)]))
 all_goals first
  | (show(_:List DV)=_
     first
      |exact Eq.trans (UE i2 i0 (by assumption) (by assumption) (by assumption)) (H1 (by assumption))
      |exact Eq.trans (UF i2 i0 (by assumption) (by assumption) (by assumption)) (H1 (by assumption))
      |exact Eq.trans (UG i2 (by assumption) j2 j0 (by assumption) (by assumption)) (H1 (by assumption))
      |exact Eq.trans (UH i2 (by assumption) j2 (by assumption)) (H1 (by assumption))
      |exact R6 (by assumption)
      |done)
  |omega
  |exact fe
  |exact QP i2 (by assumption)
  |exact Pe j2 (by assumption)
  |exact bu
  |exact⟨hs,hl,ns,nl⟩
  |done
end Go.V