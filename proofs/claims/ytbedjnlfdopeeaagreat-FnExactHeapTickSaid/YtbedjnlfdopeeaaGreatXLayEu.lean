/- Contracts. -/
import Derived.Test.YtbedjnlfdopeeaaGreatXLayDu
set_option linter.all false
open Go
open IntKind renaming i64->Za
open True renaming intro->Zk
namespace Go.V
open Go Go.Proofs
set_option maxRecDepth 1000000
set_option maxHeartbeats 8000000
namespace Le1
structure aP where
 layOk:aa->aa->Bool
 dzK:aa->aa->Int->Int
 dzI:aa->aa->Int->Int
 dzS:aa->aa->Int->Int
 dzO:aa->aa->Int->Int
abbrev F0:aP:=⟨layOk,dzK,dzI,dzS,dzO⟩
def ct (F:aP):CT:=fun f ds=>match f,ds with
 |166,[.one (.s 3 sp),.one (.s 3 lg)]=>some (fun _=>Rw [tI,tI,tI] sp/\Rw [tI,tI,tI] lg/\sp.length<=1073741824/\lg.length<=1073741824,[.k (F.layOk sp lg)])
 |268,[.one (.s 3 sp),.one (.s 3 lg),.one (.v (.int Za a))]=>some (fun _=>Rw [tI,tI,tI] sp/\Rw [tI,tI,tI] lg/\sp.length<=1073741824/\lg.length<=1073741824/\ -9223372036854775808<=a/\a<=9223372036854775807,[.agg [.i (F.dzK sp lg a),.i (F.dzI sp lg a),.i (F.dzS sp lg a),.i (F.dzO sp lg a)]])
 |_,_=>none
theorem aj:aT (ct F0):=by
 intro f ds pre res h hp;unfold ct at h;split at h<;>cases h
 exact fU hp;exact gz hp
abbrev B:cF:=tb aj
end Le1
theorem oO {sp lg:aa}(hp:Rw [tI,tI,tI] sp/\Rw [tI,tI,tI] lg/\sp.length<=1073741824/\lg.length<=1073741824):ap 271 [.one (.s 3 sp),.one (.s 3 lg)] [.one (.s 1 (laL sp lg))]:=by
 obtain⟨hs,hl,ns,nl⟩:=hp;refine cb Le1.B Tryz.func271 ?_
 intro O r F hO hr hF;cbv
 repeat' first|apply And.intro|(apply bu<;>intro hb<;>cbv)|(refine⟨[0,1,5,6],[5],Int×aa,fun s_=>match s_ with|(i,o)=>[.reg 6 (.j i),.reg 5 (.one (.vw 5 0 0 0 (O.ln o))),.leaf 5 0 ⟨0,0,none,.own (.s 1 o)⟩],fun s_=>match s_ with|(i,o)=>0<=i/\i<=512/\HR sp lg i o,fun s_=>match s_ with|(i,o)=>512-i.toNat,⟨(0,[]),?_,?_⟩,?_⟩;rotate_left;(focus (cbv;done));intro s_ hi;obtain⟨i,o⟩:=s_;replace hi:0<=i/\i<=512/\HR sp lg i o:=hi;obtain⟨i0,i1,i2⟩:=hi;cbv)|(refine ab (O.ar .add Za i 1,O.cat o (O.sub [[.i i]] 0 (O.ln [[.i i]]))) ?_ ?_ ?_;focus (cbv;done))|(refine ab (O.ar .add Za i 1,o) ?_ ?_ ?_;focus (cbv;done))
 all_goals(subst hO hr hF;(try simp only[nc]at*);(try simp only[ak,SS,sa,az]at*);(try rw[cy (by omega) (by omega)]))
 all_goals first
  | (show(_:List DV)=_
     first
      |(refine pd ?_;exact MP i2 i1 (by assumption))
      |(refine pd ?_;exact MO i2 i0 (by assumption))
      |done)
  |omega
  |exact⟨hs,hl,ns,nl⟩
  |exact⟨hs,hl,ns,nl,by omega,by omega⟩
  |(have q:=i2.l;constructor<;>(simp only[List.length_cons,List.length_nil];omega))
  |exact FZ i2 i0 (by assumption) (Qs (by assumption) (by assumption))
  |exact FZ i2 i0 (by assumption) (Qt (by assumption) (by assumption))
  |exact Kw i2 i0 (by assumption) (Qp (by assumption))
  |exact Kw i2 i0 (by assumption) (Qq (by assumption) (by assumption))
  |exact Uc
  |(have q:true=false:=(by assumption);cases q)
  |exact⟨Zk,Zk⟩
  |done
end Go.V