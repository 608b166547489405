/- Contracts. -/
import Derived.Test.YtbedjnlfdopeeaaGreatXLayBu
set_option linter.all false
open Go
open IntKind renaming i64->Za
namespace Go.V
open Go Go.Proofs
set_option maxRecDepth 1000000
set_option maxHeartbeats 8000000
namespace Lc1
structure aP where
 spOk:Int->Int->Int->Bool
 lgOk:Int->Int->Int->Bool
 mgbI:aa->Int->Bool
 muT:aa->Int->aa
abbrev F0:aP:=⟨spOk,lgOk,mgbI,muT⟩
def ct (F:aP):CT:=fun f ds=>match f,ds with
 |227,[.agg [.v (.int Za p),.v (.int Za k),.v (.int Za b)]]=>some (fun _=>True,[.k (F.spOk p k b)])
 |228,[.agg [.v (.int Za p),.v (.int Za n),.v (.int Za s)]]=>some (fun _=>True,[.k (F.lgOk p n s)])
 |_,_=>none
theorem aj:aT (ct F0):=by
 intro f ds pre res h hp;unfold ct at h;split at h<;>cases h
 exact ew hp;exact j4 hp
def pt (F:aP):PT:=fun f=>match f with
 | 226=>some fun ds=>match ds with
   |[.one (.v (.int Za pg)),.mp [.own (.m true es)]]=>some (fun _=>True,[[.own (.m true (F.muT es pg))]],[.k (!(F.mgbI es pg))])
   |_=>none
 |_=>none
theorem gJ:pE (pt F0):=by
 intro f mk h ds pre outs res hm hp;unfold pt at h;split at h
 ·cases h;dsimp only at hm;split at hm
  ·cases hm;exact mD hp
  ·cases hm
 ·cases h
abbrev B:cF:={Φ:=aP,F0:=F0,ct:=ct,hc:=aj,pt:=pt,hp:=gJ}
end Lc1
theorem jF {sp lg:aa}(hp:Rw [tI,tI,tI] sp/\Rw [tI,tI,tI] lg/\sp.length<=1073741824/\lg.length<=1073741824):ap 126 [.one (.s 3 sp),.one (.s 3 lg)] [.k (layOk sp lg)]:=by
 obtain⟨hs,hl,ns,nl⟩:=hp;refine cb Lc1.B Tryz.func126 ?_
 intro O r F hO hr hF;cbv
 repeat' first|apply And.intro|(apply bu<;>intro hb<;>cbv)|(refine⟨[1,6,14,15,16],[5],Int×aa,fun s_=>match s_ with|(i,es)=>[.reg 16 (.j i),.leaf 5 0 ⟨0,0,none,.own (.m true es)⟩],fun s_=>match s_ with|(i,es)=>0<=i/\i<=(sp.length:Int)/\Lu sp i es,fun s_=>match s_ with|(i,es)=>sp.length-i.toNat,⟨(0,[]),?_,?_⟩,?_⟩;rotate_left;(focus (cbv;done));intro s_ hi;obtain⟨i,es⟩:=s_;replace hi:0<=i/\i<=(sp.length:Int)/\Lu sp i es:=hi;obtain⟨i0,i1,i2⟩:=hi;cbv)|(refine⟨[6,31,32,33],[5],Int×aa,fun s_=>match s_ with|(j,es1)=>[.reg 33 (.j j),.leaf 5 0 ⟨0,0,none,.own (.m true es1)⟩],fun s_=>match s_ with|(j,es1)=>0<=j/\j<=(lg.length:Int)/\Of sp lg j es1,fun s_=>match s_ with|(j,es1)=>lg.length-j.toNat,⟨(0,es),?_,?_⟩,?_⟩;rotate_left;(focus (cbv;done));intro s_ hj;obtain⟨j,es1⟩:=s_;replace hj:0<=j/\j<=(lg.length:Int)/\Of sp lg j es1:=hj;obtain⟨j0,j1,j2⟩:=hj;cbv)|(refine⟨[6,10,11,31,32,33],[5,10],Int×aa,fun s_=>match s_ with|(k,es2)=>[.reg 11 (.j k),.leaf 5 0 ⟨0,0,none,.own (.m true es2)⟩],fun s_=>match s_ with|(k,es2)=>0<=k/\k<=ag lg j 1/\Ls sp lg j k es2,fun s_=>match s_ with|(k,es2)=>(ag lg j 1-k).toNat,⟨(0,es1),?_,?_⟩,?_⟩;rotate_left;(focus (cbv;done));intro s_ hk;obtain⟨k,es2⟩:=s_;replace hk:0<=k/\k<=ag lg j 1/\Ls sp lg j k es2:=hk;obtain⟨k0,k1,k2⟩:=hk;cbv)|(refine ab (O.ar .add Za k 1,F.muT es2 (O.ar .add Za (O.gi lg j 0) k)) ?_ ?_ ?_;focus (cbv;done))|(refine ab (O.ar .add Za j 1,es2) ?_ ?_ ?_;focus (cbv;done))|(refine ab (O.ar .add Za i 1,F.muT es (O.gi sp i 0)) ?_ ?_ ?_;focus (cbv;done))
 all_goals(subst hO hr hF;(try simp only[nc]at*);(try simp only[ak,SS,sa,az]at*);(try rw[cy (by omega) (by omega)]);(try have z:=(Qh (k:=k) (by assumption) k0 (by assumption)));(try(obtain⟨z1,z2,z3,z4,z5⟩:=z));(try have z6:bK .add Za k 1=k+1:=bh (by omega));(try simp only[z3]at*);(try simp only[z6]at*))
 all_goals first
  | (show(_:List DV)=_
     first
      |(refine ai ?_;symm;exact ML i2 i0 (by assumption) (QH (b:=mgbI es (ag sp i 0)) hb))
      |(refine ai ?_;symm;exact ME k2 j0 (by assumption) k0 (by assumption) (QH (b:=mgbI es2 (ag lg j 0+k)) hb))
      |(refine ai ?_;symm;exact C3 i0 (by assumption) (by assumption))
      |(refine ai ?_;symm;exact C4 j0 (by assumption) (by assumption))
      |(refine ai ?_;symm;exact MG j2 j1 (by assumption))
      |done)
  |omega
  |exact eF
  |exact P1 i2 i0 (by assumption) (QI (b:=mgbI es (ag sp i 0)) hb)
  |exact P0 k2 k0 (QI (b:=mgbI es2 (ag lg j 0+k)) hb)
  |exact MF k2 j0 (by assumption) k1 (by assumption)
  |exact T6 j2
  |exact MM i2 i1 (by assumption)
  |exact T8
  |(have t:=iu (by assumption);have b:=gV t.1;omega)
  |done
end Go.V