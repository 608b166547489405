/-
  Contracts of functions, by evaluation of conditions on their code.
-/import Derived.Test.YticfhgfgobafbaaGreatS9
import Derived.Test.YticfhgfgobafbaaGreatH41
import Derived.Test.YticfhgfgobafbaaGreatLayGm
set_option linter.all false
namespace Go.V
open Go Go.Proofs
set_option maxRecDepth 1000000
set_option maxHeartbeats 8000000
namespace Lh0
structure Fns where
 hasB : List (List L) -> Int -> Bool
def F0 : Fns := ⟨hasB⟩
def ct (F : Fns) : CT := fun f ds => match f with
 | 44 => match ds with
   | [.one (.s 1 l), .one (.v (.int .i64 x))] => some (fun _ => Rw [tI] l /\ l.length <= 1099511627776, [.one (.v (.bool (F.hasB l x)))])
   | _ => none
 | _ => none
theorem ct_ok : CTok Tryz.prog (ct F0) := by
 intro f ds pre res h hp
 unfold ct at h
 split at h
 ·split at h
  ·cases h; exact c_slices_Contains_int_int _ _ hp
  ·cases h
 ·cases h
def B : TB Tryz.prog := {Φ := Fns, F0 := F0, ct := ct, hc := ct_ok}
end Lh0
theorem c_impl_CacheHas_1 (l : List (List L)) (ad : Int) (hp : Rw [tI] l /\ l.length <= 1099511627776) : Ctr Tryz.prog 116 [.one (.s 1 l), .ptr [.v (.int .i64 ad)]] [.one (.v (.bool (hasB l ad)))] := by
 refine ctr_b Lh0.B tabOk mixed 7 _ [4] [.tmp 3] Tryz.func116 rfl rfl rfl rfl rfl ?_
 intro O r (F : Lh0.Fns) hO hr (hF : F = Lh0.F0)
 cbv
 repeat' first | refine And.intro ?_ ?_ | (refine caseB_intro (fun hb => ?_) (fun hb => ?_) <;> cbv)
 all_goals ((try subst hos); subst hO hr hF; (try simp only [stdO, SS, sub_all, ad_zero] at *); (try simp only [ncast] at *); (try simp only [Int.ofNat_eq_natCast] at *))
 all_goals first
  | exact hp
  | exact rfl
  | trivial
  | done
namespace Lh1
structure Fns where
 hasB : List (List L) -> Int -> Bool
def F0 : Fns := ⟨hasB⟩
def ct (F : Fns) : CT := fun f ds => match f with
 | 116 => match ds with
   | [.one (.s 1 l), .ptr [.v (.int .i64 ad)]] => some (fun _ => Rw [tI] l /\ l.length <= 1099511627776, [.one (.v (.bool (F.hasB l ad)))])
   | _ => none
 | _ => none
theorem ct_ok : CTok Tryz.prog (ct F0) := by
 intro f ds pre res h hp
 unfold ct at h
 split at h
 ·split at h
  ·cases h; exact c_impl_CacheHas_1 _ _ hp
  ·cases h
 ·cases h
def B : TB Tryz.prog := {Φ := Fns, F0 := F0, ct := ct, hc := ct_ok}
end Lh1
theorem c_slices_IndexFunc_int_int (os : List (List L)) (id : Int) (hp : NsL os) : Ctr Tryz.prog 186 [.one (.s 1 os), .fn 116 [[.v (.int .i64 id)]]] [.one (.v (.int .i64 (chI os id)))] := by
 have hw := hp.w
 have hn := hp.l
 refine ctr_b Lh1.B tabOk mixed 19 _ [3] [.tmp 4] Tryz.func186 rfl rfl rfl rfl rfl ?_
 intro O r (F : Lh1.Fns) hO hr (hF : F = Lh1.F0)
 cbv
 repeat' first | refine And.intro ?_ ?_ | (refine caseB_intro (fun hb => ?_) (fun hb => ?_) <;> cbv) | (refine ⟨[0, 1, 7, 8], [0], Int, fun i => [.reg 8 (.one (.v (.int .i64 i)))], fun i => 0 <= i /\ i <= ((os.length : Nat) : Int) /\ upto (notB (isCh os id)) i, fun i => (os.length) - i.toNat, ⟨0, ?_, ?_⟩, ?_⟩; rotate_left; (focus (cbv; done)); intro i hi; replace hi : 0 <= i /\ i <= ((os.length : Nat) : Int) /\ upto (notB (isCh os id)) i := hi; obtain ⟨i0, i1, i2⟩ := hi; cbv) | (refine loop_step (O.ar .add .i64 i 1) ?_ ?_ ?_; rotate_left 2; focus (cbv; done))
 all_goals ((try subst hos); subst hO hr hF; (try simp only [stdO, SS, sub_all, ad_zero] at *); (try simp only [ncast] at *); (try simp only [Int.ofNat_eq_natCast] at *))
 all_goals (try simp only [Lh1.F0] at *)
 all_goals try rw [up64 (by omega) (by omega)]
 all_goals first
  | (show (_ : List DV) = _
     first
      | exact di_eq (first_at i2 i0 (by assumption) (show isCh os id i = true from by assumption)).symm
      | exact di_eq (first_no i2 (by assumption)).symm
      | done)
  | omega
  | (refine ⟨by omega, by omega, Eq.trans (Rw.eta (fs := _) (by (first | assumption | exact Rw.sub (by first | assumption | exact Rw.sub (by assumption) (by omega) rfl) (by omega) rfl)) (by omega) (by omega)) ?_⟩; rfl)
  | exact hp.el i0 (by assumption)
  | (show (lk _ _).isSome = true; kernel_rfl)
  | exact upto_z
  | exact upto_s i2 (notB_f (show isCh os id i = false from by assumption))
  | exact ⟨trivial, trivial⟩
  | trivial
  | done
namespace Lh2
structure Fns where
 chI : List (List L) -> Int -> Int
def F0 : Fns := ⟨chI⟩
def ct (F : Fns) : CT := fun f ds => match f with
 | 186 => match ds with
   | [.one (.s 1 os), .fn 116 [[.v (.int .i64 id)]]] => some (fun _ => NsL os, [.one (.v (.int .i64 (F.chI os id)))])
   | _ => none
 | _ => none
theorem ct_ok : CTok Tryz.prog (ct F0) := by
 intro f ds pre res h hp
 unfold ct at h
 split at h
 ·split at h
  ·cases h; exact c_slices_IndexFunc_int_int _ _ hp
  ·cases h
 ·cases h
def B : TB Tryz.prog := {Φ := Fns, F0 := F0, ct := ct, hc := ct_ok}
end Lh2
theorem c_slices_ContainsFunc_int_int (os : List (List L)) (id : Int) (hp : NsL os) : Ctr Tryz.prog 115 [.one (.s 1 os), .fn 116 [[.v (.int .i64 id)]]] [.one (.v (.bool (chB os id)))] := by
 refine ctr_b Lh2.B tabOk mixed 9 _ [4] [.tmp 4] Tryz.func115 rfl rfl rfl rfl rfl ?_
 intro O r (F : Lh2.Fns) hO hr (hF : F = Lh2.F0)
 cbv
 repeat' first | refine And.intro ?_ ?_ | (refine caseB_intro (fun hb => ?_) (fun hb => ?_) <;> cbv)
 all_goals ((try subst hos); subst hO hr hF; (try simp only [stdO, SS, sub_all, ad_zero] at *); (try simp only [ncast] at *); (try simp only [Int.ofNat_eq_natCast] at *))
 all_goals (try simp only [Lh2.F0] at *)
 all_goals first
  | (show (_ : List DV) = _
     first
      | exact db_eq (decide_eq_true (by assumption)).symm
      | exact db_eq (decide_eq_false (by omega)).symm
      | exact db_eq (b_iff (by unfold chB; simp only [SS, decide_eq_true_eq]))
      | exact rfl
      | done)
  | exact hp
  | exact rfl
  | trivial
  | done
namespace Lh3
structure Fns where
 chB : List (List L) -> Int -> Bool
def F0 : Fns := ⟨chB⟩
def ct (F : Fns) : CT := fun f ds => match f with
 | 115 => match ds with
   | [.one (.s 1 os), .fn 116 [[.v (.int .i64 id)]]] => some (fun _ => NsL os, [.one (.v (.bool (F.chB os id)))])
   | _ => none
 | _ => none
theorem ct_ok : CTok Tryz.prog (ct F0) := by
 intro f ds pre res h hp
 unfold ct at h
 split at h
 ·split at h
  ·cases h; exact c_slices_ContainsFunc_int_int _ _ hp
  ·cases h
 ·cases h
def B : TB Tryz.prog := {Φ := Fns, F0 := F0, ct := ct, hc := ct_ok}
end Lh3
theorem c_impl_CacheHas (os : List (List L)) (id : Int) (hp : NsL os) : Ctr Tryz.prog 41 [.agg [.s 1 os], .one (.v (.int .i64 id))] [.one (.v (.bool (chB os id)))] := by
 refine ctr_b Lh3.B tabOk mixed 9 _ [4] [.tmp 4] Tryz.func41 rfl rfl rfl rfl rfl ?_
 intro O r (F : Lh3.Fns) hO hr (hF : F = Lh3.F0)
 cbv
 repeat' first | refine And.intro ?_ ?_ | (refine caseB_intro (fun hb => ?_) (fun hb => ?_) <;> cbv)
 all_goals ((try subst hos); subst hO hr hF; (try simp only [stdO, SS, sub_all, ad_zero] at *); (try simp only [ncast] at *); (try simp only [Int.ofNat_eq_natCast] at *))
 all_goals first
  | exact hp
  | exact rfl
  | trivial
  | done
end Go.V