/-
  Contracts, by evaluation.
-/import Derived.Test.YticfhgfgobafbaaGreatS9
import Derived.Test.YticfhgfgobafbaaGreatHA
import Derived.Test.YticfhgfgobafbaaGreatHeapBm
set_option linter.all false
namespace Go.V
open Go Go.Proofs
set_option maxRecDepth 1000000
set_option maxHeartbeats 8000000
namespace C1
structure Fns where
 inR : Int -> Int -> Int -> Bool
def F0 : Fns := ⟨inR⟩
def ct (F : Fns) : CT := fun f ds => match f with
 | 87 => match ds with
   | [.one (.v (.int .i64 x)), .one (.v (.int .i64 a)), .one (.v (.int .i64 b))] => some (fun _ => True, [.one (.v (.bool (F.inR x a b)))])
   | _ => none
 | 71 => match ds with
   | [.one (.v (.int .i64 x)), .one (.v (.int .i64 a)), .one (.v (.int .i64 b))] => some (fun _ => True, [.one (.v (.bool (F.inR x a b)))])
   | _ => none
 | _ => none
theorem ct_ok : CTok Tryz.prog (ct F0) := by
 intro f ds pre res h hp
 unfold ct at h
 split at h <;> (try split at h) <;> cases h
 exact c_impl_between _ _ _ hp
 exact c_spec_l01In _ _ _ hp
def B : TB Tryz.prog := tb ct_ok
end C1
theorem c_impl_slotOk (b i : Int) (hp : True) : Ctr Tryz.prog 183 [.one (.v (.int .i64 b)), .one (.v (.int .i64 i))] [.one (.v (.bool (slB b i)))] := by
 refine ctr_b C1.B tabOk mixed 11 _ [4] [.tmp 4] Tryz.func183 rfl rfl rfl rfl rfl ?_
 intro O r (F : C1.Fns) hO hr (hF : F = C1.F0)
 cbv
 repeat' first | refine And.intro ?_ ?_ | (refine cbi (fun hb => ?_) (fun hb => ?_) <;> cbv)
 all_goals (subst hO hr hF; (try simp only [stdO, SS, sa, az] at *); (try simp only [nc] at *); (try simp only [onc] at *))
 all_goals (try simp only [C1.F0] at *)
 all_goals first
  | exact True.intro
  | (show (_ : List DV) = _
     first
      | exact db_eq (by unfold slB; rw [decide_eq_true (by assumption)]; rfl)
      | exact db_eq (by unfold slB; rw [decide_eq_false (by omega)]; rfl)
      | done)
  | trace_state
theorem c_spec_l02Bit (b i : Int) (hp : True) : Ctr Tryz.prog 216 [.one (.v (.int .i64 b)), .one (.v (.int .i64 i))] [.one (.v (.bool (slB b i)))] := by
 refine ctr_b C1.B tabOk mixed 11 _ [4] [.tmp 4] Tryz.func216 rfl rfl rfl rfl rfl ?_
 intro O r (F : C1.Fns) hO hr (hF : F = C1.F0)
 cbv
 repeat' first | refine And.intro ?_ ?_ | (refine cbi (fun hb => ?_) (fun hb => ?_) <;> cbv)
 all_goals (subst hO hr hF; (try simp only [stdO, SS, sa, az] at *); (try simp only [nc] at *); (try simp only [onc] at *))
 all_goals (try simp only [C1.F0] at *)
 all_goals first
  | exact True.intro
  | (show (_ : List DV) = _
     first
      | exact db_eq (by unfold slB; rw [decide_eq_true (by assumption)]; rfl)
      | exact db_eq (by unfold slB; rw [decide_eq_false (by omega)]; rfl)
      | done)
  | trace_state
namespace C2
structure Fns where
 slB : Int -> Int -> Bool
def F0 : Fns := ⟨slB⟩
def ct (F : Fns) : CT := fun f ds => match f with
 | 183 => match ds with
   | [.one (.v (.int .i64 b)), .one (.v (.int .i64 i))] => some (fun _ => True, [.one (.v (.bool (F.slB b i)))])
   | _ => none
 | 216 => match ds with
   | [.one (.v (.int .i64 b)), .one (.v (.int .i64 i))] => some (fun _ => True, [.one (.v (.bool (F.slB b i)))])
   | _ => none
 | _ => none
theorem ct_ok : CTok Tryz.prog (ct F0) := by
 intro f ds pre res h hp
 unfold ct at h
 split at h <;> (try split at h) <;> cases h
 exact c_impl_slotOk _ _ hp
 exact c_spec_l02Bit _ _ hp
def B : TB Tryz.prog := tb ct_ok
end C2
theorem c_impl_HasSlot (b i : Int) (hp : True) : Ctr Tryz.prog 111 [.one (.v (.int .i64 b)), .one (.v (.int .i64 i))] [.one (.v (.bool (hsB b i)))] := by
 refine ctr_b C2.B tabOk mixed 15 _ [4] [.tmp 4] Tryz.func111 rfl rfl rfl rfl rfl ?_
 intro O r (F : C2.Fns) hO hr (hF : F = C2.F0)
 cbv
 repeat' first | refine And.intro ?_ ?_ | (refine cbi (fun hb => ?_) (fun hb => ?_) <;> cbv)
 all_goals (subst hO hr hF; (try simp only [stdO, SS, sa, az] at *); (try simp only [nc] at *); (try simp only [onc] at *))
 all_goals (try simp only [C2.F0] at *)
 all_goals try (have hs := sl_t.1 (‹slB b i = true›); have hw := wr_small hs.2.1 hs.2.2; simp only [hw] at *)
 all_goals first
  | exact True.intro
  | exact ⟨True.intro, True.intro⟩
  | (show (_ : List DV) = _
     first
      | exact db_eq (hs_no (by assumption)).symm
      | exact db_eq (hs_yes (by assumption) (by assumption)).symm
      | exact db_eq (hs_not (by assumption)).symm
      | (refine db_eq (b_iff ?_); unfold hsB; rw [show slB b i = true from by assumption, Bool.true_and, decide_eq_true_eq]; simp only [SS])
      | done)
  | omega
  | trace_state
theorem c_spec_HasSlot (b i : Int) (hp : True) : Ctr Tryz.prog 176 [.one (.v (.int .i64 b)), .one (.v (.int .i64 i))] [.one (.v (.bool (hsB b i)))] := by
 refine ctr_b C2.B tabOk mixed 16 _ [4] [.tmp 4] Tryz.func176 rfl rfl rfl rfl rfl ?_
 intro O r (F : C2.Fns) hO hr (hF : F = C2.F0)
 cbv
 repeat' first | refine And.intro ?_ ?_ | (refine cbi (fun hb => ?_) (fun hb => ?_) <;> cbv)
 all_goals (subst hO hr hF; (try simp only [stdO, SS, sa, az] at *); (try simp only [nc] at *); (try simp only [onc] at *))
 all_goals (try simp only [C2.F0] at *)
 all_goals try (have hs := sl_t.1 (‹slB b i = true›); have hw := wr_small hs.2.1 hs.2.2; simp only [hw] at *)
 all_goals first
  | exact True.intro
  | exact ⟨True.intro, True.intro⟩
  | (show (_ : List DV) = _
     first
      | exact db_eq (hs_no (by assumption)).symm
      | exact db_eq (hs_yes (by assumption) (by assumption)).symm
      | exact db_eq (hs_not (by assumption)).symm
      | (refine db_eq (b_iff ?_); unfold hsB; rw [show slB b i = true from by assumption, Bool.true_and, decide_eq_true_eq]; simp only [SS])
      | done)
  | omega
  | trace_state
end Go.V