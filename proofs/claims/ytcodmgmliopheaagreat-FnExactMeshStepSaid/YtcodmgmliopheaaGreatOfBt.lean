/- Contracts. -/
import Derived.Test.YtcodmgmliopheaaGreatOfAt
set_option linter.all false
open Go
open And renaming intro->AT
namespace Go.V
open Go Go.Proofs
set_option maxRecDepth 1000000
set_option maxHeartbeats 8000000
namespace Ob1
structure aQ where
 machOk:aa->aa->aa->Bool
 peM:aa->Int->Int
 peF:aa->Int->Int
abbrev F0 :aQ:=⟨machOk,peM,peF⟩
def ct (F:aQ):CT:=fun f ds=>match f,ds with
 |284,[.agg [.s 1 cs,.s 1 us,.s 2 es]]=>some (fun _=>Rw [.sl [tI]] cs/\Rw [tB] us/\Rw [tI,tI] es,[.k (F.machOk cs us es)])
 |112,[.agg [.s 2 es],.one (.v (.int .i64 p))]=>some (fun _=>Rw [tI,tI] es,[.agg [.i (F.peM es p),.i (F.peF es p)]])
 |234,[.agg [.s 2 es],.one (.v (.int .i64 p))]=>some (fun _=>Rw [tI,tI] es,[.agg [.i (F.peM es p),.i (F.peF es p)]])
 |_,_=>none
theorem aj :aR (ct F0):=by
 intro f ds pre res h hp;unfold ct at h;split at h<;>cases h
 exact iC hp;exact cP hp;exact dY hp
abbrev B :cy:=tb aj
end Ob1
theorem rW {b0 b1 es:aa}{a:Int}(hp:Rw [tI,tI] es/\(-9223372036854775808<=a/\a<=9223372036854775807)):aw 424 [.agg [.s 1 b0,.s 1 b1,.s 2 es],.j a] [.agg [.i (leM es a),.i (leF es a)],.j (leK a)]:=by
 obtain⟨hw,ha⟩:=hp;have hq:¬ a<0->bJ .quo .i64 a 16=a/16:=fun h=>vz (by omega) (by omega) (by omega)
 have hr:¬ a<0->bJ .rem .i64 a 16=a%16:=fun h=>ya (by omega)
 refine cb Ob1.B Tryz.func424 ?_
 intro O r F hO hr hF;cbv
 repeat' first|apply AT|(apply bi<;>intro hb<;>cbv)
 all_goals(subst hO hr hF;(try simp only[nc]at*);(try simp only[ah,SS,sa,az]at*))
 all_goals first|exact ES (vc (by omega)).1.symm (vc (by omega)).2.1.symm (vc (es:=es) (by omega)).2.2.symm|(rw[hq (by omega),hr (by omega)];exact ES (jn (by omega)).1.symm (jn (by omega)).2.1.symm (jn (es:=es) (by omega)).2.2.symm)|(first|assumption|exact Rw.sub (by first|assumption|exact Rw.sub (by assumption) (by omega) rfl) (by omega) rfl)|trivial|trace_state
theorem kq {cs us es:aa}{a:Int}(hp:Rw [.sl [tI]] cs/\Rw [tB] us/\Rw [tI,tI] es/\(-9223372036854775808<=a/\a<=9223372036854775807)):aw 401 [.agg [.s 1 cs,.s 1 us,.s 2 es],.j a] [.agg [.i (smM cs us es a),.i (smF cs us es a)]]:=by
 obtain⟨hc,hu,he,ha⟩:=hp;have hq:¬ a<0->bJ .quo .i64 a 16=a/16:=fun h=>vz (by omega) (by omega) (by omega)
 refine cb Ob1.B Tryz.func401 ?_
 intro O r F hO hr hF;cbv
 repeat' first|apply AT|(apply bi<;>intro hb<;>cbv)
 all_goals(subst hO hr hF;(try simp only[nc]at*);(try simp only[ah,SS,sa,az]at*))
 all_goals first|exact⟨hc,hu,he⟩|exact he|exact Ai (qC (.inr (by omega))).1.symm (qC (.inr (by omega))).2.symm|exact Ai (qC (.inl (by assumption))).1.symm (qC (.inl (by assumption))).2.symm|(rw[hq (by omega)];have hi:machOk cs us es=true:=(by assumption);exact Ai ((mC hi).1.trans (jn (by omega)).1).symm ((mC hi).2.trans (jn (by omega)).2.1).symm)|trivial|trace_state
end Go.V