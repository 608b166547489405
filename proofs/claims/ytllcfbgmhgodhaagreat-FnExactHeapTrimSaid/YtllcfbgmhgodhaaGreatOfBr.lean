/- Contracts. -/
import Derived.Test.YtllcfbgmhgodhaaGreatOfAr
set_option linter.all false
namespace Go.V
open Go Go.Proofs
set_option maxRecDepth 1000000
set_option maxHeartbeats 8000000
namespace Ob1
structure aQ where
 machOk:aa->aa->aa->Bool
 peM:aa->Int->Int
 peF:aa->Int->Int
abbrev F0 :aQ:=⟨machOk,peM,peF⟩
def ct (F:aQ):CT:=fun f ds=>match f,ds with
 |256,[.agg [.s 1 cs,.s 1 us,.s 2 es]]=>some (fun _=>Rw [.sl [tI]] cs/\Rw [tB] us/\Rw [tI,tI] es,[.k (F.machOk cs us es)])
 |204,[.agg [.s 2 es],.one (.v (.int .i64 p))]=>some (fun _=>Rw [tI,tI] es,[.agg [.i (F.peM es p),.i (F.peF es p)]])
 |188,[.agg [.s 2 es],.one (.v (.int .i64 p))]=>some (fun _=>Rw [tI,tI] es,[.agg [.i (F.peM es p),.i (F.peF es p)]])
 |_,_=>none
theorem ai :aS (ct F0):=by
 intro f ds pre res h hp;unfold ct at h;split at h<;>cases h
 exact iY hp;exact dA hp;exact dC hp
abbrev B :cy:=tb ai
end Ob1
theorem tF {cs us es:aa}{a:Int}(hp:Rw [.sl [tI]] cs/\Rw [tB] us/\Rw [tI,tI] es/\(-9223372036854775808<=a/\a<=9223372036854775807)):au 191 [.agg [.s 1 cs,.s 1 us,.s 2 es],.j a] [.agg [.i (smM cs us es a),.i (smF cs us es a)]]:=by
 obtain⟨hc,hu,he,ha⟩:=hp;have hq:¬ a<0->bF .quo .i64 a 16=a/16:=fun h=>oz (by omega) (by omega) (by omega)
 refine cb Ob1.B Tryz.func191 ?_
 intro O r F hO hr hF;cbv
 repeat' first|apply And.intro|(apply be<;>intro hb<;>cbv)
 all_goals(subst hO hr hF;(try simp only[nc]at*);(try simp only[aj,SS,sa,az]at*))
 all_goals first|exact⟨hc,hu,he⟩|exact he|exact Ai (x9 (.inr (by omega))).1.symm (x9 (.inr (by omega))).2.symm|exact Ai (x9 (.inl (by assumption))).1.symm (x9 (.inl (by assumption))).2.symm|(rw[hq (by omega)];have hi:machOk cs us es=true:=(by assumption);exact Ai ((vN hi).1.trans (vj (by omega)).1).symm ((vN hi).2.trans (vj (by omega)).2.1).symm)|trivial|trace_state
end Go.V