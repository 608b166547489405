/-
  Contracts, by evaluation.
-/
import Derived.Test.YtniaaknbbceigaaGreatS10
import Derived.Test.YtniaaknbbceigaaGreatHA
import Derived.Test.YtniaaknbbceigaaGreatLayDq
set_option linter.all false
namespace Go.V
open Go Go.Proofs
set_option maxRecDepth 1000000
set_option maxHeartbeats 8000000
namespace Le1
structure Fns where
 layOk:List (List L)->List (List L)->Bool
 dzK:List (List L)->List (List L)->Int->Int
 dzI:List (List L)->List (List L)->Int->Int
 dzS:List (List L)->List (List L)->Int->Int
 dzO:List (List L)->List (List L)->Int->Int
def F0 :Fns:=⟨layOk,dzK,dzI,dzS,dzO⟩
def ct (F:Fns):CT:=fun f ds=>match f,ds with
 |120,[.one (.s 3 sp),.one (.s 3 lg)]=>some (fun _=>Rw [tI,tI,tI] sp/\Rw [tI,tI,tI] lg/\sp.length<=1073741824/\lg.length<=1073741824,[.one (.v (.bool (F.layOk sp lg)))])
 |77,[.one (.s 3 sp),.one (.s 3 lg),.one (.v (.int .i64 a))]=>some (fun _=>Rw [tI,tI,tI] sp/\Rw [tI,tI,tI] lg/\sp.length<=1073741824/\lg.length<=1073741824/\ -9223372036854775808<=a/\a<=9223372036854775807,[.agg [.v (.int .i64 (F.dzK sp lg a)),.v (.int .i64 (F.dzI sp lg a)),.v (.int .i64 (F.dzS sp lg a)),.v (.int .i64 (F.dzO sp lg a))]])
 |_,_=>none
theorem ak :aW Tryz.prog (ct F0):=by
 intro f ds pre res h hp;unfold ct at h;split at h<;>(try split at h)<;>cases h
 exact ed _ _ hp;exact eI _ _ _ hp
def B :TB Tryz.prog:=tb ak
end Le1
theorem nQ (sp lg:List (List L))(hp:Rw [tI,tI,tI] sp/\Rw [tI,tI,tI] lg/\sp.length<=1073741824/\lg.length<=1073741824):aP Tryz.prog 208 [.one (.s 3 sp),.one (.s 3 lg)] [.one (.s 1 (laL sp lg))]:=by
 obtain⟨hs,hl,ns,nl⟩:=hp;refine ai Le1.B ag mixed 40 _ [31] [.tmp 4] Tryz.func208 rfl rfl rfl rfl rfl ?_;intro O r (F:Le1.Fns) hO hr (hF:F=Le1.F0);cbv
 repeat' first|refine And.intro ?_ ?_|(refine aG (fun hb=>?_) (fun hb=>?_)<;>cbv)|(refine⟨[0,1,5,6],[5],Int×List (List L),fun s_=>match s_ with|(i,o)=>[.reg 6 (.one (.v (.int .i64 i))),.reg 5 (.one (.vw 5 0 0 0 (O.ln o))),.leaf 5 0 ⟨0,0,none,.own (.s 1 o)⟩],fun s_=>match s_ with|(i,o)=>0<=i/\i<=512/\GV sp lg i o,fun s_=>match s_ with|(i,o)=>512-i.toNat,⟨(0,[]),?_,?_⟩,?_⟩;rotate_left;(focus (cbv;done));intro s_ hi;obtain⟨i,o⟩:=s_;replace hi:0<=i/\i<=512/\GV sp lg i o:=hi;obtain⟨i0,i1,i2⟩:=hi;cbv)|(refine aa (O.ar .add .i64 i 1,O.cat o (O.sub [[.v (.int .i64 i)]] 0 (O.ln [[.v (.int .i64 i)]]))) ?_ ?_ ?_;rotate_left 2;focus (cbv;done))|(refine aa (O.ar .add .i64 i 1,o) ?_ ?_ ?_;rotate_left 2;focus (cbv;done))
 all_goals(subst hO hr hF;(try simp only[af,SS,sa,az]at*);(try simp only[nc]at*);(try simp only[aF]at*))
 all_goals(try simp only[Le1.F0]at*)
 all_goals try rw[bD (by omega) (by omega)]
 all_goals first
  | (show(_:List DV)=_
     first
      |(refine eQ ?_;exact Ly i2 i1 (by assumption))
      |(refine eQ ?_;exact Lx i2 i0 (by assumption))
      |done)
  |omega
  |exact⟨hs,hl,ns,nl⟩
  |exact⟨hs,hl,ns,nl,by omega,by omega⟩
  |(have q:=i2.l;constructor<;>(simp only[List.length_cons,List.length_nil];omega))
  |exact EI i2 i0 (by assumption) (Of (by assumption) (by assumption))
  |exact EI i2 i0 (by assumption) (Og (by assumption) (by assumption))
  |exact Jx i2 i0 (by assumption) (Oc (by assumption))
  |exact Jx i2 i0 (by assumption) (Od (by assumption) (by assumption))
  |exact QC
  |(have q:true=false:=(by assumption);cases q)
  |exact⟨True.intro,True.intro⟩
  |done
end Go.V