/- Contracts. -/
import Derived.Test.YtcodmgmliopheaaGreatLayBt
set_option linter.all false
namespace Go.V
open Go Go.Proofs
set_option maxRecDepth 1000000
set_option maxHeartbeats 8000000
namespace Lc1
structure aQ where
 spOk:Int->Int->Int->Bool
 lgOk:Int->Int->Int->Bool
 mgbI:aa->Int->Bool
 muT:aa->Int->aa
abbrev F0 :aQ:=⟨spOk,lgOk,mgbI,muT⟩
def ct (F:aQ):CT:=fun f ds=>match f,ds with
 |287,[.agg [.v (.int .i64 p),.v (.int .i64 k),.v (.int .i64 b)]]=>some (fun _=>True,[.k (F.spOk p k b)])
 |288,[.agg [.v (.int .i64 p),.v (.int .i64 n),.v (.int .i64 s)]]=>some (fun _=>True,[.k (F.lgOk p n s)])
 |_,_=>none
theorem aj :aR (ct F0):=by
 intro f ds pre res h hp;unfold ct at h;split at h<;>cases h
 exact hN hp;exact kj hp
def pt (F:aQ):PT:=fun f=>match f with
 | 286=>some fun ds=>match ds with
   |[.one (.v (.int .i64 pg)),.mp [.own (.m true es)]]=>some (fun _=>True,[[.own (.m true (F.muT es pg))]],[.k (!(F.mgbI es pg))])
   |_=>none
 |_=>none
theorem iO :sR (pt F0):=by
 intro f mk h ds pre outs res hm hp;unfold pt at h;split at h
 ·cases h;dsimp only at hm;split at hm
  ·cases hm;exact mQ hp
  ·cases hm
 ·cases h
abbrev B :cy:={Φ:=aQ,F0:=F0,ct:=ct,hc:=aj,pt:=pt,hp:=iO}
end Lc1
theorem jQ {sp lg:aa}(hp:Rw [tI,tI,tI] sp/\Rw [tI,tI,tI] lg/\sp.length<=1073741824/\lg.length<=1073741824):aw 168 [.one (.s 3 sp),.one (.s 3 lg)] [.k (layOk sp lg)]:=by
 obtain⟨hs,hl,ns,nl⟩:=hp;refine cb Lc1.B Tryz.func168 ?_
 intro O r F hO hr hF;cbv
 repeat' first|apply And.intro|(apply bi<;>intro hb<;>cbv)|(refine⟨[1,6,14,15,16],[5],Int×aa,fun s_=>match s_ with|(i,es)=>[.reg 16 (.j i),.leaf 5 0 ⟨0,0,none,.own (.m true es)⟩],fun s_=>match s_ with|(i,es)=>0<=i/\i<=(sp.length:Int)/\K2 sp i es,fun s_=>match s_ with|(i,es)=>sp.length-i.toNat,⟨(0,[]),?_,?_⟩,?_⟩;rotate_left;(focus (cbv;done));intro s_ hi;obtain⟨i,es⟩:=s_;replace hi:0<=i/\i<=(sp.length:Int)/\K2 sp i es:=hi;obtain⟨i0,i1,i2⟩:=hi;cbv)|(refine⟨[6,31,32,33],[5],Int×aa,fun s_=>match s_ with|(j,es1)=>[.reg 33 (.j j),.leaf 5 0 ⟨0,0,none,.own (.m true es1)⟩],fun s_=>match s_ with|(j,es1)=>0<=j/\j<=(lg.length:Int)/\NB sp lg j es1,fun s_=>match s_ with|(j,es1)=>lg.length-j.toNat,⟨(0,es),?_,?_⟩,?_⟩;rotate_left;(focus (cbv;done));intro s_ hj;obtain⟨j,es1⟩:=s_;replace hj:0<=j/\j<=(lg.length:Int)/\NB sp lg j es1:=hj;obtain⟨j0,j1,j2⟩:=hj;cbv)|(refine⟨[6,10,11,31,32,33],[5,10],Int×aa,fun s_=>match s_ with|(k,es2)=>[.reg 11 (.j k),.leaf 5 0 ⟨0,0,none,.own (.m true es2)⟩],fun s_=>match s_ with|(k,es2)=>0<=k/\k<=af lg j 1/\K0 sp lg j k es2,fun s_=>match s_ with|(k,es2)=>(af lg j 1-k).toNat,⟨(0,es1),?_,?_⟩,?_⟩;rotate_left;(focus (cbv;done));intro s_ hk;obtain⟨k,es2⟩:=s_;replace hk:0<=k/\k<=af lg j 1/\K0 sp lg j k es2:=hk;obtain⟨k0,k1,k2⟩:=hk;cbv)|(refine ab (O.ar .add .i64 k 1,F.muT es2 (O.ar .add .i64 (O.gi lg j 0) k)) ?_ ?_ ?_;focus (cbv;done))|(refine ab (O.ar .add .i64 j 1,es2) ?_ ?_ ?_;focus (cbv;done))|(refine ab (O.ar .add .i64 i 1,F.muT es (O.gi sp i 0)) ?_ ?_ ?_;focus (cbv;done))
 all_goals(subst hO hr hF;(try simp only[nc]at*);(try simp only[ah,SS,sa,az]at*);(try rw[cE (by omega) (by omega)]);(try have z:=(Pi (k:=k) (by assumption) k0 (by assumption)));(try(obtain⟨z1,z2,z3,z4,z5⟩:=z));(try have z6:bJ .add .i64 k 1=k+1:=bB (by omega));(try simp only[z3]at*);(try simp only[z6]at*))
 all_goals first
  | (show(_:List DV)=_
     first
      |(refine ai ?_;symm;exact L8 i2 i0 (by assumption) (PV (b:=mgbI es (af sp i 0)) hb))
      |(refine ai ?_;symm;exact L1 k2 j0 (by assumption) k0 (by assumption) (PV (b:=mgbI es2 (af lg j 0+k)) hb))
      |(refine ai ?_;symm;exact Dg i0 (by assumption) (by assumption))
      |(refine ai ?_;symm;exact Dh j0 (by assumption) (by assumption))
      |(refine ai ?_;symm;exact L3 j2 j1 (by assumption))
      |done)
  |omega
  |exact fe
  |exact O2 i2 i0 (by assumption) (PW (b:=mgbI es (af sp i 0)) hb)
  |exact O1 k2 k0 (PW (b:=mgbI es2 (af lg j 0+k)) hb)
  |exact L2 k2 j0 (by assumption) k1 (by assumption)
  |exact SI j2
  |exact L9 i2 i1 (by assumption)
  |exact SK
  |(have t:=ig (by assumption);have b:=gQ t.1;omega)
  |done
end Go.V