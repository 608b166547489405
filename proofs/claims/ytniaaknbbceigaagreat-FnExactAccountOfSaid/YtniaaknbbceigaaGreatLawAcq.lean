/-
  Contracts, by evaluation.
-/
import Derived.Test.YtniaaknbbceigaaGreatS10
import Derived.Test.YtniaaknbbceigaaGreatVE
set_option linter.all false
namespace Go.V
open Go Go.Proofs
set_option maxRecDepth 1000000
set_option maxHeartbeats 8000000
namespace LAccount
structure Fns where
 no:Unit
def F0 :Fns:=⟨()⟩
def B :TB Tryz.prog:={Φ:=Fns,F0:=F0}
end LAccount
theorem nB (a0 a1 a2 a3 a4 a5 a6 a7:Int)(d:DV)(hp:d=.agg [.v (.int .i64 a0),.v (.int .i64 a1),.v (.int .i64 a2),.v (.int .i64 a3),.v (.int .i64 a4),.v (.int .i64 a5),.v (.int .i64 a6),.v (.int .i64 a7)]):aP Tryz.prog 28 [.agg [.v (.int .i64 a0),.v (.int .i64 a1),.v (.int .i64 a2),.v (.int .i64 a3),.v (.int .i64 a4),.v (.int .i64 a5),.v (.int .i64 a6),.v (.int .i64 a7)],d] [.one (.v (.bool true))]:=by
 subst hp;refine ai LAccount.B ag mixed 45 _ [4] [.tmp 4] Tryz.func28 rfl rfl rfl rfl rfl ?_;intro O r (F:LAccount.Fns) hO hr (hF:F=LAccount.F0);cbv
 repeat' first|refine And.intro ?_ ?_|(refine aG (fun hb=>?_) (fun hb=>?_)<;>cbv)
 all_goals(subst hO hr hF;(try simp only[af,SS,sa,az]at*);(try simp only[nc]at*);(try simp only[aF]at*))
 all_goals(try simp only[LAccount.F0]at*)
 all_goals first|trivial|trace_state
end Go.V