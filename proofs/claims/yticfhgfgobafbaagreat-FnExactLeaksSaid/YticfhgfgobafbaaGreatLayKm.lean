/-
  Contracts of functions, by evaluation of conditions on their code.
-/import Derived.Test.YticfhgfgobafbaaGreatS9
import Derived.Test.YticfhgfgobafbaaGreatH44
import Derived.Test.YticfhgfgobafbaaGreatLayJm
set_option linter.all false
namespace Go.V
open Go Go.Proofs
set_option maxRecDepth 1000000
set_option maxHeartbeats 8000000
namespace Lk0
structure Fns where
 chB : List (List L) -> Int -> Bool
def F0 : Fns := ⟨chB⟩
def ct (F : Fns) : CT := fun f ds => match f with
 | 41 => match ds with
   | [.agg [.s 1 os], .one (.v (.int .i64 id))] => some (fun _ => NsL os, [.one (.v (.bool (F.chB os id)))])
   | _ => none
 | _ => none
theorem ct_ok : CTok Tryz.prog (ct F0) := by
 intro f ds pre res h hp
 unfold ct at h
 split at h
 ·split at h
  ·cases h; exact c_impl_CacheHas _ _ hp
  ·cases h
 ·cases h
def B : TB Tryz.prog := {Φ := Fns, F0 := F0, ct := ct, hc := ct_ok}
end Lk0
theorem c_impl_Leaks_1 (l : List (List L)) (ad : Int) (hp : NsL l) : Ctr Tryz.prog 40 [.agg [.s 1 l], .ptr [.v (.int .i64 ad)]] [.one (.v (.bool (chB l ad)))] := by
 refine ctr_b Lk0.B tabOk mixed 7 _ [4] [.tmp 3] Tryz.func40 rfl rfl rfl rfl rfl ?_
 intro O r (F : Lk0.Fns) hO hr (hF : F = Lk0.F0)
 cbv
 repeat' first | refine And.intro ?_ ?_ | (refine caseB_intro (fun hb => ?_) (fun hb => ?_) <;> cbv)
 all_goals ((try subst hos); subst hO hr hF; (try simp only [stdO, SS, sub_all, ad_zero] at *); (try simp only [ncast] at *); (try simp only [Int.ofNat_eq_natCast] at *))
 all_goals first
  | exact hp
  | exact rfl
  | trivial
  | done
namespace Lk1
structure Fns where
 chB : List (List L) -> Int -> Bool
def F0 : Fns := ⟨chB⟩
def ct (F : Fns) : CT := fun f ds => match f with
 | 40 => match ds with
   | [.agg [.s 1 l], .ptr [.v (.int .i64 ad)]] => some (fun _ => NsL l, [.one (.v (.bool (F.chB l ad)))])
   | _ => none
 | _ => none
theorem ct_ok : CTok Tryz.prog (ct F0) := by
 intro f ds pre res h hp
 unfold ct at h
 split at h
 ·split at h
  ·cases h; exact c_impl_Leaks_1 _ _ hp
  ·cases h
 ·cases h
def B : TB Tryz.prog := {Φ := Fns, F0 := F0, ct := ct, hc := ct_ok}
end Lk1
theorem c_slices_IndexFunc_loop_example_g00978_impl_Cache_loop_example_g00978_impl_Cache (os : List (List L)) (id : Int) (hp : NsC os) : Ctr Tryz.prog 114 [.one (.s 1 os), .fn 40 [[.v (.int .i64 id)]]] [.one (.v (.int .i64 (lkI os id)))] := by
 have hw := hp.w
 have hn := hp.l
 refine ctr_b Lk1.B tabOk mixed 19 _ [3] [.tmp 4] Tryz.func114 rfl rfl rfl rfl rfl ?_
 intro O r (F : Lk1.Fns) hO hr (hF : F = Lk1.F0)
 cbv
 repeat' first | refine And.intro ?_ ?_ | (refine caseB_intro (fun hb => ?_) (fun hb => ?_) <;> cbv) | (refine ⟨[0, 1, 7, 8], [0], Int, fun i => [.reg 8 (.one (.v (.int .i64 i)))], fun i => 0 <= i /\ i <= ((os.length : Nat) : Int) /\ upto (notB (isLk os id)) i, fun i => (os.length) - i.toNat, ⟨0, ?_, ?_⟩, ?_⟩; rotate_left; (focus (cbv; done)); intro i hi; replace hi : 0 <= i /\ i <= ((os.length : Nat) : Int) /\ upto (notB (isLk os id)) i := hi; obtain ⟨i0, i1, i2⟩ := hi; cbv) | (refine loop_step (O.ar .add .i64 i 1) ?_ ?_ ?_; rotate_left 2; focus (cbv; done))
 all_goals ((try subst hos); subst hO hr hF; (try simp only [stdO, SS, sub_all, ad_zero] at *); (try simp only [ncast] at *); (try simp only [Int.ofNat_eq_natCast] at *))
 all_goals (try simp only [Lk1.F0] at *)
 all_goals try rw [up64 (by omega) (by omega)]
 all_goals first
  | (show (_ : List DV) = _
     first
      | exact di_eq (first_at i2 i0 (by assumption) (show isLk os id i = true from by assumption)).symm
      | exact di_eq (first_no i2 (by assumption)).symm
      | done)
  | omega
  | (refine ⟨by omega, by omega, Eq.trans (Rw.eta (fs := _) (by (first | assumption | exact Rw.sub (by first | assumption | exact Rw.sub (by assumption) (by omega) rfl) (by omega) rfl)) (by omega) (by omega)) ?_⟩; rfl)
  | exact hp.n i i0 (by assumption)
  | (show (lk _ _).isSome = true; kernel_rfl)
  | exact upto_z
  | exact upto_s i2 (notB_f (show isLk os id i = false from by assumption))
  | exact ⟨trivial, trivial⟩
  | trivial
  | done
namespace Lk2
structure Fns where
 lkI : List (List L) -> Int -> Int
def F0 : Fns := ⟨lkI⟩
def ct (F : Fns) : CT := fun f ds => match f with
 | 114 => match ds with
   | [.one (.s 1 os), .fn 40 [[.v (.int .i64 id)]]] => some (fun _ => NsC os, [.one (.v (.int .i64 (F.lkI os id)))])
   | _ => none
 | _ => none
theorem ct_ok : CTok Tryz.prog (ct F0) := by
 intro f ds pre res h hp
 unfold ct at h
 split at h
 ·split at h
  ·cases h; exact c_slices_IndexFunc_loop_example_g00978_impl_Cache_loop_example_g00978_impl_Cache _ _ hp
  ·cases h
 ·cases h
def B : TB Tryz.prog := {Φ := Fns, F0 := F0, ct := ct, hc := ct_ok}
end Lk2
theorem c_slices_ContainsFunc_loop_example_g00978_impl_Cache_loop_example_g00978_impl_Cache (os : List (List L)) (id : Int) (hp : NsC os) : Ctr Tryz.prog 39 [.one (.s 1 os), .fn 40 [[.v (.int .i64 id)]]] [.one (.v (.bool (lkB os id)))] := by
 refine ctr_b Lk2.B tabOk mixed 9 _ [4] [.tmp 4] Tryz.func39 rfl rfl rfl rfl rfl ?_
 intro O r (F : Lk2.Fns) hO hr (hF : F = Lk2.F0)
 cbv
 repeat' first | refine And.intro ?_ ?_ | (refine caseB_intro (fun hb => ?_) (fun hb => ?_) <;> cbv)
 all_goals ((try subst hos); subst hO hr hF; (try simp only [stdO, SS, sub_all, ad_zero] at *); (try simp only [ncast] at *); (try simp only [Int.ofNat_eq_natCast] at *))
 all_goals (try simp only [Lk2.F0] at *)
 all_goals first
  | (show (_ : List DV) = _
     first
      | exact db_eq (decide_eq_true (by assumption)).symm
      | exact db_eq (decide_eq_false (by omega)).symm
      | exact db_eq (b_iff (by unfold lkB; simp only [SS, decide_eq_true_eq]))
      | exact rfl
      | done)
  | exact hp
  | exact rfl
  | trivial
  | done
end Go.V