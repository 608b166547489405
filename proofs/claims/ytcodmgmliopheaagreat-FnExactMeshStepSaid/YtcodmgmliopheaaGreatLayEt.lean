/- Contracts. -/
import Derived.Test.YtcodmgmliopheaaGreatLayDt
set_option linter.all false
open Go
open True renaming intro->VT
namespace Go.V
open Go Go.Proofs
set_option maxRecDepth 1000000
set_option maxHeartbeats 8000000
namespace Le1
structure aQ where
 layOk:aa->aa->Bool
 dzK:aa->aa->Int->Int
 dzI:aa->aa->Int->Int
 dzS:aa->aa->Int->Int
 dzO:aa->aa->Int->Int
abbrev F0 :aQ:=⟨layOk,dzK,dzI,dzS,dzO⟩
def ct (F:aQ):CT:=fun f ds=>match f,ds with
 |136,[.one (.s 3 sp),.one (.s 3 lg)]=>some (fun _=>Rw [tI,tI,tI] sp/\Rw [tI,tI,tI] lg/\sp.length<=1073741824/\lg.length<=1073741824,[.k (F.layOk sp lg)])
 |274,[.one (.s 3 sp),.one (.s 3 lg),.one (.v (.int .i64 a))]=>some (fun _=>Rw [tI,tI,tI] sp/\Rw [tI,tI,tI] lg/\sp.length<=1073741824/\lg.length<=1073741824/\ -9223372036854775808<=a/\a<=9223372036854775807,[.agg [.i (F.dzK sp lg a),.i (F.dzI sp lg a),.i (F.dzS sp lg a),.i (F.dzO sp lg a)]])
 |_,_=>none
theorem aj :aR (ct F0):=by
 intro f ds pre res h hp;unfold ct at h;split at h<;>cases h
 exact fN hp;exact gw hp
abbrev B :cy:=tb aj
end Le1
theorem pp {sp lg:aa}(hp:Rw [tI,tI,tI] sp/\Rw [tI,tI,tI] lg/\sp.length<=1073741824/\lg.length<=1073741824):aw 277 [.one (.s 3 sp),.one (.s 3 lg)] [.one (.s 1 (laL sp lg))]:=by
 obtain⟨hs,hl,ns,nl⟩:=hp;refine cb Le1.B Tryz.func277 ?_
 intro O r F hO hr hF;cbv
 repeat' first|apply And.intro|(apply bi<;>intro hb<;>cbv)|(refine⟨[0,1,5,6],[5],Int×aa,fun s_=>match s_ with|(i,o)=>[.reg 6 (.j i),.reg 5 (.one (.vw 5 0 0 0 (O.ln o))),.leaf 5 0 ⟨0,0,none,.own (.s 1 o)⟩],fun s_=>match s_ with|(i,o)=>0<=i/\i<=512/\HC sp lg i o,fun s_=>match s_ with|(i,o)=>512-i.toNat,⟨(0,[]),?_,?_⟩,?_⟩;rotate_left;(focus (cbv;done));intro s_ hi;obtain⟨i,o⟩:=s_;replace hi:0<=i/\i<=512/\HC sp lg i o:=hi;obtain⟨i0,i1,i2⟩:=hi;cbv)|(refine ab (O.ar .add .i64 i 1,O.cat o (O.sub [[.i i]] 0 (O.ln [[.i i]]))) ?_ ?_ ?_;focus (cbv;done))|(refine ab (O.ar .add .i64 i 1,o) ?_ ?_ ?_;focus (cbv;done))
 all_goals(subst hO hr hF;(try simp only[nc]at*);(try simp only[ah,SS,sa,az]at*);(try rw[cE (by omega) (by omega)]))
 all_goals first
  | (show(_:List DV)=_
     first
      |(refine pG ?_;exact Mt i2 i1 (by assumption))
      |(refine pG ?_;exact Ms i2 i0 (by assumption))
      |done)
  |omega
  |exact⟨hs,hl,ns,nl⟩
  |exact⟨hs,hl,ns,nl,by omega,by omega⟩
  |(have q:=i2.l;constructor<;>(simp only[List.length_cons,List.length_nil];omega))
  |exact F1 i2 i0 (by assumption) (Px (by assumption) (by assumption))
  |exact F1 i2 i0 (by assumption) (Py (by assumption) (by assumption))
  |exact Kb i2 i0 (by assumption) (Pu (by assumption))
  |exact Kb i2 i0 (by assumption) (Pv (by assumption) (by assumption))
  |exact S8
  |(have q:true=false:=(by assumption);cases q)
  |exact⟨VT,VT⟩
  |done
end Go.V