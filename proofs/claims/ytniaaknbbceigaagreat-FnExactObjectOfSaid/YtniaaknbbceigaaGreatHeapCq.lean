/-
  Contracts, by evaluation.
-/
import Derived.Test.YtniaaknbbceigaaGreatS10
import Derived.Test.YtniaaknbbceigaaGreatHA
import Derived.Test.YtniaaknbbceigaaGreatHeapBq
set_option linter.all false
namespace Go.V
open Go Go.Proofs
set_option maxRecDepth 1000000
set_option maxHeartbeats 8000000
namespace C1
structure Fns where
 inR : Int -> Int -> Int -> Bool
def F0 : Fns := ⟨inR⟩
def ct (F : Fns) : CT := fun f ds => match f, ds with
 | 152, [.one (.v (.int .i64 x)), .one (.v (.int .i64 a)), .one (.v (.int .i64 b))] => some (fun _ => True, [.one (.v (.bool (F.inR x a b)))])
 | 126, [.one (.v (.int .i64 x)), .one (.v (.int .i64 a)), .one (.v (.int .i64 b))] => some (fun _ => True, [.one (.v (.bool (F.inR x a b)))])
 | _, _ => none
theorem am : aV Tryz.prog (ct F0) := by
 intro f ds pre res h hp;unfold ct at h;split at h <;> (try split at h) <;> cases h
 exact aC _ _ _ hp;exact aN _ _ _ hp
def B : TB Tryz.prog := tb am
end C1
theorem qE (b i : Int) (hp : True) : aO Tryz.prog 238 [.one (.v (.int .i64 b)), .one (.v (.int .i64 i))] [.one (.v (.bool (slB b i)))] := by
 refine aj C1.B ai mixed 11 _ [4] [.tmp 4] Tryz.func238 rfl rfl rfl rfl rfl ?_;intro O r (F : C1.Fns) hO hr (hF : F = C1.F0);cbv
 repeat' first | refine And.intro ?_ ?_ | (refine aK (fun hb => ?_) (fun hb => ?_) <;> cbv)
 all_goals (subst hO hr hF; (try simp only [ah, SS, sa, az] at *); (try simp only [nc] at *); (try simp only [aF] at *))
 all_goals (try simp only [C1.F0] at *)
 all_goals first
  | exact True.intro
  | (show (_ : List DV) = _
     first
      | exact af (by unfold slB; rw [decide_eq_true (by assumption)]; rfl)
      | exact af (by unfold slB; rw [decide_eq_false (by omega)]; rfl)
      | done)
  | trace_state
theorem qY (b i : Int) (hp : True) : aO Tryz.prog 172 [.one (.v (.int .i64 b)), .one (.v (.int .i64 i))] [.one (.v (.bool (slB b i)))] := by
 refine aj C1.B ai mixed 11 _ [4] [.tmp 4] Tryz.func172 rfl rfl rfl rfl rfl ?_;intro O r (F : C1.Fns) hO hr (hF : F = C1.F0);cbv
 repeat' first | refine And.intro ?_ ?_ | (refine aK (fun hb => ?_) (fun hb => ?_) <;> cbv)
 all_goals (subst hO hr hF; (try simp only [ah, SS, sa, az] at *); (try simp only [nc] at *); (try simp only [aF] at *))
 all_goals (try simp only [C1.F0] at *)
 all_goals first
  | exact True.intro
  | (show (_ : List DV) = _
     first
      | exact af (by unfold slB; rw [decide_eq_true (by assumption)]; rfl)
      | exact af (by unfold slB; rw [decide_eq_false (by omega)]; rfl)
      | done)
  | trace_state
namespace C2
structure Fns where
 slB : Int -> Int -> Bool
def F0 : Fns := ⟨slB⟩
def ct (F : Fns) : CT := fun f ds => match f, ds with
 | 238, [.one (.v (.int .i64 b)), .one (.v (.int .i64 i))] => some (fun _ => True, [.one (.v (.bool (F.slB b i)))])
 | 172, [.one (.v (.int .i64 b)), .one (.v (.int .i64 i))] => some (fun _ => True, [.one (.v (.bool (F.slB b i)))])
 | _, _ => none
theorem am : aV Tryz.prog (ct F0) := by
 intro f ds pre res h hp;unfold ct at h;split at h <;> (try split at h) <;> cases h
 exact qE _ _ hp;exact qY _ _ hp
def B : TB Tryz.prog := tb am
end C2
theorem gS (b i : Int) (hp : True) : aO Tryz.prog 189 [.one (.v (.int .i64 b)), .one (.v (.int .i64 i))] [.one (.v (.bool (hsB b i)))] := by
 refine aj C2.B ai mixed 15 _ [4] [.tmp 4] Tryz.func189 rfl rfl rfl rfl rfl ?_;intro O r (F : C2.Fns) hO hr (hF : F = C2.F0);cbv
 repeat' first | refine And.intro ?_ ?_ | (refine aK (fun hb => ?_) (fun hb => ?_) <;> cbv)
 all_goals (subst hO hr hF; (try simp only [ah, SS, sa, az] at *); (try simp only [nc] at *); (try simp only [aF] at *))
 all_goals (try simp only [C2.F0] at *)
 all_goals try (have hs := JH.1 (‹slB b i = true›); have hw := vt hs.2.1 hs.2.2; simp only [hw] at *)
 all_goals first
  | exact True.intro
  | exact ⟨True.intro, True.intro⟩
  | (show (_ : List DV) = _
     first
      | exact af (Eh (by assumption)).symm
      | exact af (Ac (by assumption) (by assumption)).symm
      | exact af (Ab (by assumption)).symm
      | (refine af (cR ?_); unfold hsB; rw [show slB b i = true from by assumption, Bool.true_and, decide_eq_true_eq]; simp only [SS])
      | done)
  | omega
  | trace_state
theorem o7 (b i : Int) (hp : True) : aO Tryz.prog 75 [.one (.v (.int .i64 b)), .one (.v (.int .i64 i))] [.one (.v (.bool (hsB b i)))] := by
 refine aj C2.B ai mixed 16 _ [4] [.tmp 4] Tryz.func75 rfl rfl rfl rfl rfl ?_;intro O r (F : C2.Fns) hO hr (hF : F = C2.F0);cbv
 repeat' first | refine And.intro ?_ ?_ | (refine aK (fun hb => ?_) (fun hb => ?_) <;> cbv)
 all_goals (subst hO hr hF; (try simp only [ah, SS, sa, az] at *); (try simp only [nc] at *); (try simp only [aF] at *))
 all_goals (try simp only [C2.F0] at *)
 all_goals try (have hs := JH.1 (‹slB b i = true›); have hw := vt hs.2.1 hs.2.2; simp only [hw] at *)
 all_goals first
  | exact True.intro
  | exact ⟨True.intro, True.intro⟩
  | (show (_ : List DV) = _
     first
      | exact af (Eh (by assumption)).symm
      | exact af (Ac (by assumption) (by assumption)).symm
      | exact af (Ab (by assumption)).symm
      | (refine af (cR ?_); unfold hsB; rw [show slB b i = true from by assumption, Bool.true_and, decide_eq_true_eq]; simp only [SS])
      | done)
  | omega
  | trace_state
end Go.V