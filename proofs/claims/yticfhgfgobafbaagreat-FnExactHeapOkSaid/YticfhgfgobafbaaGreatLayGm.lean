/-
  Contracts, by evaluation.
-/import Derived.Test.YticfhgfgobafbaaGreatS9
import Derived.Test.YticfhgfgobafbaaGreatHB
import Derived.Test.YticfhgfgobafbaaGreatLayFm
set_option linter.all false
namespace Go.V
open Go Go.Proofs
set_option maxRecDepth 1000000
set_option maxHeartbeats 8000000
namespace Lg0
structure Fns where
 no : Unit
def F0 : Fns := ⟨()⟩
def B : TB Tryz.prog := {Φ := Fns, F0 := F0}
end Lg0
theorem c_impl_hasStale_1 (d0 d1 d2 ad : Int) (hp : True) : Ctr Tryz.prog 188 [.agg [.v (.int .i64 d0), .v (.int .i64 d1), .v (.int .i64 d2)], .ptr [.v (.int .i64 ad)]] [.one (.v (.bool (eqB d0 ad)))] := by
 refine ctr_b Lg0.B tabOk mixed 8 _ [4] [.tmp 3] Tryz.func188 rfl rfl rfl rfl rfl ?_
 intro O r (F : Lg0.Fns) hO hr (hF : F = Lg0.F0)
 cbv
 repeat' first | refine And.intro ?_ ?_ | (refine cbi (fun hb => ?_) (fun hb => ?_) <;> cbv)
 all_goals (subst hO hr hF; (try simp only [stdO, SS, sa, az] at *); (try simp only [nc] at *); (try simp only [onc] at *))
 all_goals first
  | (show (_ : List DV) = _
     first
      | exact db_eq (eqB_t (by assumption)).symm
      | exact db_eq (eqB_f (by assumption)).symm
      | exact db_eq (b_iff (by unfold eqB; simp only [SS, decide_eq_true_eq]))
      | done)
  | trivial
  | done
namespace Lg1
structure Fns where
 eqB : Int -> Int -> Bool
def F0 : Fns := ⟨eqB⟩
def ct (F : Fns) : CT := fun f ds => match f with
 | 188 => match ds with
   | [.agg [.v (.int .i64 d0), .v (.int .i64 d1), .v (.int .i64 d2)], .ptr [.v (.int .i64 ad)]] => some (fun _ => True, [.one (.v (.bool (F.eqB d0 ad)))])
   | _ => none
 | _ => none
theorem ct_ok : CTok Tryz.prog (ct F0) := by
 intro f ds pre res h hp
 unfold ct at h
 split at h <;> (try split at h) <;> cases h
 exact c_impl_hasStale_1 _ _ _ _ hp
def B : TB Tryz.prog := tb ct_ok
end Lg1
theorem c_slices_IndexFunc_loop_example_g00978_impl_Stale_loop_example_g00978_impl_Stale (os : List (List L)) (id : Int) (hp : Rw [tI, tI, tI] os /\ os.length <= 1099511627776) : Ctr Tryz.prog 231 [.one (.s 3 os), .fn 188 [[.v (.int .i64 id)]]] [.one (.v (.int .i64 (qtI os id)))] := by
 obtain ⟨hw, hn⟩ := hp
 refine ctr_b Lg1.B tabOk mixed 19 _ [3] [.tmp 4] Tryz.func231 rfl rfl rfl rfl rfl ?_
 intro O r (F : Lg1.Fns) hO hr (hF : F = Lg1.F0)
 cbv
 repeat' first | refine And.intro ?_ ?_ | (refine cbi (fun hb => ?_) (fun hb => ?_) <;> cbv) | (refine ⟨[0, 1, 7, 8], [0], Int, fun i => [.reg 8 (.one (.v (.int .i64 i)))], fun i => 0 <= i /\ i <= ((os.length : Nat) : Int) /\ upto (notB (isQt os id)) i, fun i => (os.length) - i.toNat, ⟨0, ?_, ?_⟩, ?_⟩; rotate_left; (focus (cbv; done)); intro i hi; replace hi : 0 <= i /\ i <= ((os.length : Nat) : Int) /\ upto (notB (isQt os id)) i := hi; obtain ⟨i0, i1, i2⟩ := hi; cbv) | (refine loop_step (O.ar .add .i64 i 1) ?_ ?_ ?_; rotate_left 2; focus (cbv; done))
 all_goals (subst hO hr hF; (try simp only [stdO, SS, sa, az] at *); (try simp only [nc] at *); (try simp only [onc] at *))
 all_goals (try simp only [Lg1.F0] at *)
 all_goals try rw [up64 (by omega) (by omega)]
 all_goals first
  | (show (_ : List DV) = _
     first
      | exact di_eq (first_at i2 i0 (by assumption) (show isQt os id i = true from by assumption)).symm
      | exact di_eq (first_at i2 i0 (by assumption) (show isQt os id i = true from eqB_t (by assumption))).symm
      | exact di_eq (first_no i2 (by assumption)).symm
      | done)
  | omega
  | (refine ⟨by omega, by omega, (Rw.eta (by first | assumption | exact Rw.sub (by first | assumption | exact Rw.sub (by assumption) (by omega) rfl) (by omega) rfl) (by omega) (by omega)).trans ?_⟩; rfl)
  | (show (lk _ _).isSome = true; kernel_rfl)
  | exact upto_z
  | exact upto_s i2 (notB_f (show isQt os id i = false from by assumption))
  | exact upto_s i2 (notB_f (show isQt os id i = false from eqB_f (by assumption)))
  | exact ⟨trivial, trivial⟩
  | trivial
  | done
namespace Lg2
structure Fns where
 qtI : List (List L) -> Int -> Int
def F0 : Fns := ⟨qtI⟩
def ct (F : Fns) : CT := fun f ds => match f with
 | 231 => match ds with
   | [.one (.s 3 os), .fn 188 [[.v (.int .i64 id)]]] => some (fun _ => Rw [tI, tI, tI] os /\ os.length <= 1099511627776, [.one (.v (.int .i64 (F.qtI os id)))])
   | _ => none
 | _ => none
theorem ct_ok : CTok Tryz.prog (ct F0) := by
 intro f ds pre res h hp
 unfold ct at h
 split at h <;> (try split at h) <;> cases h
 exact c_slices_IndexFunc_loop_example_g00978_impl_Stale_loop_example_g00978_impl_Stale _ _ hp
def B : TB Tryz.prog := tb ct_ok
end Lg2
theorem c_slices_ContainsFunc_loop_example_g00978_impl_Stale_loop_example_g00978_impl_Stale (os : List (List L)) (id : Int) (hp : Rw [tI, tI, tI] os /\ os.length <= 1099511627776) : Ctr Tryz.prog 187 [.one (.s 3 os), .fn 188 [[.v (.int .i64 id)]]] [.one (.v (.bool (qtB os id)))] := by
 refine ctr_b Lg2.B tabOk mixed 9 _ [4] [.tmp 4] Tryz.func187 rfl rfl rfl rfl rfl ?_
 intro O r (F : Lg2.Fns) hO hr (hF : F = Lg2.F0)
 cbv
 repeat' first | refine And.intro ?_ ?_ | (refine cbi (fun hb => ?_) (fun hb => ?_) <;> cbv)
 all_goals (subst hO hr hF; (try simp only [stdO, SS, sa, az] at *); (try simp only [nc] at *); (try simp only [onc] at *))
 all_goals (try simp only [Lg2.F0] at *)
 all_goals first
  | (show (_ : List DV) = _
     first
      | exact db_eq (decide_eq_true (by assumption)).symm
      | exact db_eq (decide_eq_false (by omega)).symm
      | exact db_eq (b_iff (by unfold qtB; simp only [SS, decide_eq_true_eq]))
      | exact rfl
      | done)
  | exact hp
  | exact rfl
  | trivial
  | done
namespace Lg3
structure Fns where
 qtB : List (List L) -> Int -> Bool
def F0 : Fns := ⟨qtB⟩
def ct (F : Fns) : CT := fun f ds => match f with
 | 187 => match ds with
   | [.one (.s 3 os), .fn 188 [[.v (.int .i64 id)]]] => some (fun _ => Rw [tI, tI, tI] os /\ os.length <= 1099511627776, [.one (.v (.bool (F.qtB os id)))])
   | _ => none
 | _ => none
theorem ct_ok : CTok Tryz.prog (ct F0) := by
 intro f ds pre res h hp
 unfold ct at h
 split at h <;> (try split at h) <;> cases h
 exact c_slices_ContainsFunc_loop_example_g00978_impl_Stale_loop_example_g00978_impl_Stale _ _ hp
def B : TB Tryz.prog := tb ct_ok
end Lg3
theorem c_impl_hasStale (os : List (List L)) (id : Int) (hp : Rw [tI, tI, tI] os /\ os.length <= 1099511627776) : Ctr Tryz.prog 119 [.one (.s 3 os), .one (.v (.int .i64 id))] [.one (.v (.bool (qtB os id)))] := by
 refine ctr_b Lg3.B tabOk mixed 8 _ [4] [.tmp 4] Tryz.func119 rfl rfl rfl rfl rfl ?_
 intro O r (F : Lg3.Fns) hO hr (hF : F = Lg3.F0)
 cbv
 repeat' first | refine And.intro ?_ ?_ | (refine cbi (fun hb => ?_) (fun hb => ?_) <;> cbv)
 all_goals (subst hO hr hF; (try simp only [stdO, SS, sa, az] at *); (try simp only [nc] at *); (try simp only [onc] at *))
 all_goals first | exact hp | exact rfl | trivial | done
namespace Lg4
structure Fns where
 qtB : List (List L) -> Int -> Bool
def F0 : Fns := ⟨qtB⟩
def ct (F : Fns) : CT := fun f ds => match f with
 | 119 => match ds with
   | [.one (.s 3 os), .one (.v (.int .i64 id))] => some (fun _ => Rw [tI, tI, tI] os /\ os.length <= 1099511627776, [.one (.v (.bool (F.qtB os id)))])
   | _ => none
 | _ => none
theorem ct_ok : CTok Tryz.prog (ct F0) := by
 intro f ds pre res h hp
 unfold ct at h
 split at h <;> (try split at h) <;> cases h
 exact c_impl_hasStale _ _ hp
def B : TB Tryz.prog := tb ct_ok
end Lg4
theorem c_spec_QuarHas (rm : Int) (os : List (List L)) (id : Int) (hp : Rw [tI, tI, tI] os /\ os.length <= 1099511627776) : Ctr Tryz.prog 144 [.agg [.v (.int .i64 rm), .s 3 os], .one (.v (.int .i64 id))] [.one (.v (.bool (qtB os id)))] := by
 obtain ⟨hw, hn⟩ := hp
 have hm := hw.1; unfold maxLen at hm
 refine ctr_b Lg4.B tabOk mixed 21 _ [4] [.tmp 4] Tryz.func144 rfl rfl rfl rfl rfl ?_
 intro O r (F : Lg4.Fns) hO hr (hF : F = Lg4.F0)
 cbv
 repeat' first | refine And.intro ?_ ?_ | (refine cbi (fun hb => ?_) (fun hb => ?_) <;> cbv) | (refine ⟨[1, 2, 5], [2], Int, fun i => [.reg 5 (.one (.v (.int .i64 i)))], fun i => 0 <= i /\ i <= ((os.length : Nat) : Int) /\ upto (notB (isQt os id)) i, fun i => (os.length) - i.toNat, ⟨0, ?_, ?_⟩, ?_⟩; rotate_left; (focus (cbv; done)); intro i hi; replace hi : 0 <= i /\ i <= ((os.length : Nat) : Int) /\ upto (notB (isQt os id)) i := hi; obtain ⟨i0, i1, i2⟩ := hi; cbv) | (refine loop_step (O.ar .add .i64 i 1) ?_ ?_ ?_; rotate_left 2; focus (cbv; done))
 all_goals (subst hO hr hF; (try simp only [stdO, SS, sa, az] at *); (try simp only [nc] at *); (try simp only [onc] at *))
 all_goals try rw [up64 (by omega) (by omega)]
 all_goals first
  | (show (_ : List DV) = _
     first
      | (refine db_eq ?_; symm; exact qt_yes i2 i0 (by assumption) (by assumption))
      | (refine db_eq ?_; symm; exact qt_no i2 (by omega))
      | done)
  | omega
  | (refine ⟨by omega, by omega, (Rw.eta (by first | assumption | exact Rw.sub (by first | assumption | exact Rw.sub (by assumption) (by omega) rfl) (by omega) rfl) (by omega) (by omega)).trans ?_⟩; rfl)
  | (show okOrder _ _ = true; kernel_rfl)
  | exact upto_z
  | exact upto_s i2 (notB_f (show isQt os id i = false from eqB_f (by assumption)))
  | exact Int.natCast_nonneg _
  | exact True.intro
  | done
end Go.V