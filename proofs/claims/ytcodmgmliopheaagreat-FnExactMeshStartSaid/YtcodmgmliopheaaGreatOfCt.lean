/- Contracts. -/
import Derived.Test.YtcodmgmliopheaaGreatOfBt
set_option linter.all false
namespace Go.V
open Go Go.Proofs
set_option maxRecDepth 1000000
set_option maxHeartbeats 8000000
namespace Oc0
structure aQ where
 spOk:Int->Int->Int->Bool
 clsSz:Int->Int
 hsB:Int->Int->Bool
abbrev F0 :aQ:=⟨spOk,clsSz,hsB⟩
def ct (F:aQ):CT:=fun f ds=>match f,ds with
 |287,[.agg [.v (.int .i64 p),.v (.int .i64 k),.v (.int .i64 b)]]=>some (fun _=>True,[.k (F.spOk p k b)])
 |265,[.agg [.v (.int .i64 p),.v (.int .i64 k),.v (.int .i64 b)]]=>some (fun _=>True,[.k (F.spOk p k b)])
 |114,[.one (.v (.int .i64 k))]=>some (fun _=>True,[.j (F.clsSz k)])
 |236,[.one (.v (.int .i64 k))]=>some (fun _=>True,[.j (F.clsSz k)])
 |311,[.one (.v (.int .i64 b)),.one (.v (.int .i64 i))]=>some (fun _=>True,[.k (F.hsB b i)])
 |371,[.one (.v (.int .i64 b)),.one (.v (.int .i64 i))]=>some (fun _=>True,[.k (F.hsB b i)])
 |_,_=>none
theorem ah :aR (ct F0):=by
 intro f ds pre res h hp;unfold ct at h;split at h<;>cases h
 exact fi hp;exact fj hp;exact cJ hp;exact dT hp;exact eD hp;exact gj hp
abbrev B :cq:=tb ah
end Oc0
theorem oB {p k b:Int}(hp:True):ap 210 [.agg [.i p,.i k,.i b]] [.one (.s 1 (sclL p k b))]:=by
 refine cb Oc0.B Tryz.func210 ?_
 intro O r F hO hr hF;cbv
 repeat' first|apply And.intro|(apply bi<;>intro hb<;>cbv)|(refine⟨[1,3,4],[1,3],Int×aa,fun s_=>match s_ with|(i,o)=>[.reg 4 (.j i),.reg 3 (.one (.vw 3 0 0 0 (O.ln o))),.leaf 3 0 ⟨0,0,none,.own (.s 1 o)⟩],fun s_=>match s_ with|(i,o)=>0<=i/\i<=16/\qh k b i o,fun s_=>match s_ with|(i,o)=>(16-i).toNat,⟨(0,[]),?_,?_⟩,?_⟩;rotate_left;(focus (cbv;done));intro s_ hi;obtain⟨i,o⟩:=s_;replace hi:0<=i/\i<=16/\qh k b i o:=hi;obtain⟨i0,i1,i2⟩:=hi;cbv)|(refine ab (O.ar .add .i64 i 1,O.cat o (O.sub [[.i i]] 0 (O.ln [[.i i]]))) ?_ ?_ ?_;focus (cbv;done))|(refine ab (O.ar .add .i64 i 1,o) ?_ ?_ ?_;focus (cbv;done))
 all_goals(subst hO hr hF;(try simp only[nc]at*);(try simp only[ai,SS,sa,az]at*);(try rw[cp (by omega) (by omega)]);(try have hs:spOk p k b=true:=(by assumption));(try have c1:=J7 (ig hs).2.2.1);(try have qu:bH .quo .i64 i (clsSz k)=i/clsSz k:=nP (by omega) (by omega) (by omega));(try have w1:=Dz i2 i0))
 all_goals first
  | (show(_:List DV)=_
     first
      |exact ic (Dy i2 hs i1 (by omega))
      |exact ic (Ld (by assumption)).symm
      |done)
  |omega
  |(show aZ _ _=true;kernel_rfl)
  |exact AA i2 i0 (by rw[<-qu];assumption)
  |exact DD i2 i0 (by rw[<-qu];assumption)
  |exact Hm
  |(constructor<;>(simp only[List.length_cons,List.length_nil];omega))
  |exact⟨True.intro,True.intro⟩
  |done
theorem oX {p k b:Int}(hp:True):ap 310 [.agg [.i p,.i k,.i b]] [.one (.s 1 (sclL p k b))]:=by
 refine cb Oc0.B Tryz.func310 ?_
 intro O r F hO hr hF;cbv
 repeat' first|apply And.intro|(apply bi<;>intro hb<;>cbv)|(refine⟨[1,3,4],[1,3],Int×aa,fun s_=>match s_ with|(i,o)=>[.reg 4 (.j i),.reg 3 (.one (.vw 3 0 0 0 (O.ln o))),.leaf 3 0 ⟨0,0,none,.own (.s 1 o)⟩],fun s_=>match s_ with|(i,o)=>0<=i/\i<=16/\qh k b i o/\(i=0\/spOk p k b=true),fun s_=>match s_ with|(i,o)=>(16-i).toNat,⟨(0,[]),?_,?_⟩,?_⟩;rotate_left;(focus (cbv;done));intro s_ hi;obtain⟨i,o⟩:=s_;replace hi:0<=i/\i<=16/\qh k b i o/\(i=0\/spOk p k b=true):=hi;obtain⟨i0,i1,i2,i3⟩:=hi;cbv)|(refine ab (O.ar .add .i64 i 1,O.cat o (O.sub [[.i i]] 0 (O.ln [[.i i]]))) ?_ ?_ ?_;focus (cbv;done))|(refine ab (O.ar .add .i64 i 1,o) ?_ ?_ ?_;focus (cbv;done))
 all_goals(subst hO hr hF;(try simp only[nc]at*);(try simp only[ai,SS,sa,az]at*);(try rw[cp (by omega) (by omega)]);(try have hs:spOk p k b=true:=(by assumption));(try have c1:=J7 (ig hs).2.2.1);(try have qu:bH .quo .i64 i (clsSz k)=i/clsSz k:=nP (by omega) (by omega) (by omega));(try have w1:=Dz i2 i0))
 all_goals first
  | (show(_:List DV)=_
     first
      |exact ic (DC i2 i3 i1 (.inl (by omega)))
      |exact ic (DC i2 i3 i1 (.inr (by assumption)))
      |done)
  |omega
  |(show aZ _ _=true;kernel_rfl)
  |exact AA i2 i0 (by rw[<-qu];assumption)
  |exact DD i2 i0 (by rw[<-qu];assumption)
  |exact Hm
  |exact .inr (by assumption)
  |exact .inl trivial
  |(constructor<;>(simp only[List.length_cons,List.length_nil];omega))
  |exact⟨True.intro,True.intro⟩
  |done
end Go.V