/-
  Contracts, by evaluation.
-/
import Derived.Test.YtniaaknbbceigaaGreatS10
import Derived.Test.YtniaaknbbceigaaGreatHA
import Derived.Test.YtniaaknbbceigaaGreatHeapBq
set_option linter.all false
namespace Go.V
open Go Go.Proofs
set_option maxRecDepth 1000000
set_option maxHeartbeats 8000000
namespace C1
structure Fns where
 inR:Int->Int->Int->Bool
def F0 :Fns:=⟨inR⟩
def ct (F:Fns):CT:=fun f ds=>match f,ds with
 |152,[.one (.v (.int .i64 x)),.one (.v (.int .i64 a)),.one (.v (.int .i64 b))]=>some (fun _=>True,[.one (.v (.bool (F.inR x a b)))])
 |126,[.one (.v (.int .i64 x)),.one (.v (.int .i64 a)),.one (.v (.int .i64 b))]=>some (fun _=>True,[.one (.v (.bool (F.inR x a b)))])
 |_,_=>none
theorem ak :aW Tryz.prog (ct F0):=by
 intro f ds pre res h hp;unfold ct at h;split at h<;>(try split at h)<;>cases h
 exact aN _ _ _ hp;exact aU _ _ _ hp
def B :TB Tryz.prog:=tb ak
end C1
theorem ug (b i:Int)(hp:True):aP Tryz.prog 238 [.one (.v (.int .i64 b)),.one (.v (.int .i64 i))] [.one (.v (.bool (slB b i)))]:=by
 refine ai C1.B ag mixed 11 _ [4] [.tmp 4] Tryz.func238 rfl rfl rfl rfl rfl ?_;intro O r (F:C1.Fns) hO hr (hF:F=C1.F0);cbv
 repeat' first|refine And.intro ?_ ?_|(refine aG (fun hb=>?_) (fun hb=>?_)<;>cbv)
 all_goals(subst hO hr hF;(try simp only[af,SS,sa,az]at*);(try simp only[nc]at*);(try simp only[aF]at*))
 all_goals(try simp only[C1.F0]at*)
 all_goals first
  | (show(_:List DV)=_
     first
      |exact ah (by unfold slB;rw[decide_eq_true (by assumption)];rfl)
      |exact ah (by unfold slB;rw[decide_eq_false (by omega)];rfl)
      |done)
  |trace_state
theorem uE (b i:Int)(hp:True):aP Tryz.prog 172 [.one (.v (.int .i64 b)),.one (.v (.int .i64 i))] [.one (.v (.bool (slB b i)))]:=by
 refine ai C1.B ag mixed 11 _ [4] [.tmp 4] Tryz.func172 rfl rfl rfl rfl rfl ?_;intro O r (F:C1.Fns) hO hr (hF:F=C1.F0);cbv
 repeat' first|refine And.intro ?_ ?_|(refine aG (fun hb=>?_) (fun hb=>?_)<;>cbv)
 all_goals(subst hO hr hF;(try simp only[af,SS,sa,az]at*);(try simp only[nc]at*);(try simp only[aF]at*))
 all_goals(try simp only[C1.F0]at*)
 all_goals first
  | (show(_:List DV)=_
     first
      |exact ah (by unfold slB;rw[decide_eq_true (by assumption)];rfl)
      |exact ah (by unfold slB;rw[decide_eq_false (by omega)];rfl)
      |done)
  |trace_state
namespace C2
structure Fns where
 slB:Int->Int->Bool
def F0 :Fns:=⟨slB⟩
def ct (F:Fns):CT:=fun f ds=>match f,ds with
 |238,[.one (.v (.int .i64 b)),.one (.v (.int .i64 i))]=>some (fun _=>True,[.one (.v (.bool (F.slB b i)))])
 |172,[.one (.v (.int .i64 b)),.one (.v (.int .i64 i))]=>some (fun _=>True,[.one (.v (.bool (F.slB b i)))])
 |_,_=>none
theorem ak :aW Tryz.prog (ct F0):=by
 intro f ds pre res h hp;unfold ct at h;split at h<;>(try split at h)<;>cases h
 exact ug _ _ hp;exact uE _ _ hp
def B :TB Tryz.prog:=tb ak
end C2
theorem gg (b i:Int)(hp:True):aP Tryz.prog 189 [.one (.v (.int .i64 b)),.one (.v (.int .i64 i))] [.one (.v (.bool (hsB b i)))]:=by
 refine ai C2.B ag mixed 15 _ [4] [.tmp 4] Tryz.func189 rfl rfl rfl rfl rfl ?_;intro O r (F:C2.Fns) hO hr (hF:F=C2.F0);cbv
 repeat' first|refine And.intro ?_ ?_|(refine aG (fun hb=>?_) (fun hb=>?_)<;>cbv)
 all_goals(subst hO hr hF;(try simp only[af,SS,sa,az]at*);(try simp only[nc]at*);(try simp only[aF]at*))
 all_goals(try simp only[C2.F0]at*)
 all_goals try(have hs:=Mr.1 (‹slB b i=true›);have hw:=yP hs.2.1 hs.2.2;simp only[hw]at*)
 all_goals first
  | (show(_:List DV)=_
     first
      |exact ah (Js (by assumption)).symm
      |(refine ah (dJ ?_);unfold hsB;rw[show slB b i=true from by assumption,Bool.true_and,decide_eq_true_eq];simp only[SS])
      |done)
  |omega
  |trace_state
theorem gr (b i:Int)(hp:True):aP Tryz.prog 75 [.one (.v (.int .i64 b)),.one (.v (.int .i64 i))] [.one (.v (.bool (hsB b i)))]:=by
 refine ai C2.B ag mixed 16 _ [4] [.tmp 4] Tryz.func75 rfl rfl rfl rfl rfl ?_;intro O r (F:C2.Fns) hO hr (hF:F=C2.F0);cbv
 repeat' first|refine And.intro ?_ ?_|(refine aG (fun hb=>?_) (fun hb=>?_)<;>cbv)
 all_goals(subst hO hr hF;(try simp only[af,SS,sa,az]at*);(try simp only[nc]at*);(try simp only[aF]at*))
 all_goals(try simp only[C2.F0]at*)
 all_goals try(have hs:=Mr.1 (‹slB b i=true›);have hw:=yP hs.2.1 hs.2.2;simp only[hw]at*)
 all_goals first
  | (show(_:List DV)=_
     first
      |exact ah (Js (by assumption)).symm
      |(refine ah (dJ ?_);unfold hsB;rw[show slB b i=true from by assumption,Bool.true_and,decide_eq_true_eq];simp only[SS])
      |done)
  |omega
  |trace_state
end Go.V