/-
  Contracts, by evaluation.
-/import Derived.Test.YticfhgfgobafbaaGreatS9
import Derived.Test.YticfhgfgobafbaaGreatHB
import Derived.Test.YticfhgfgobafbaaGreatLayLm
set_option linter.all false
namespace Go.V
open Go Go.Proofs
set_option maxRecDepth 1000000
set_option maxHeartbeats 8000000
namespace Ma0
structure Fns where
 inR : Int -> Int -> Int -> Bool
def F0 : Fns := ⟨inR⟩
def ct (F : Fns) : CT := fun f ds => match f with
 | 87 => match ds with
   | [.one (.v (.int .i64 x)), .one (.v (.int .i64 a)), .one (.v (.int .i64 b))] => some (fun _ => True, [.one (.v (.bool (F.inR x a b)))])
   | _ => none
 | 71 => match ds with
   | [.one (.v (.int .i64 x)), .one (.v (.int .i64 a)), .one (.v (.int .i64 b))] => some (fun _ => True, [.one (.v (.bool (F.inR x a b)))])
   | _ => none
 | _ => none
theorem ct_ok : CTok Tryz.prog (ct F0) := by
 intro f ds pre res h hp
 unfold ct at h
 split at h <;> (try split at h) <;> cases h
 exact c_impl_between _ _ _ hp
 exact c_spec_l01In _ _ _ hp
def B : TB Tryz.prog := tb ct_ok
end Ma0
theorem c_impl_rangeIn (n a l : Int) (hp : 0 <= n /\ n <= 1099511627776) : Ctr Tryz.prog 151 [.one (.v (.int .i64 n)), .agg [.v (.int .i64 a), .v (.int .i64 l)]] [.one (.v (.bool (rngIn n a l)))] := by
 refine ctr_b Ma0.B tabOk mixed 18 _ [4] [.tmp 4] Tryz.func151 rfl rfl rfl rfl rfl ?_
 intro O r (F : Ma0.Fns) hO hr (hF : F = Ma0.F0)
 cbv
 repeat' first | refine And.intro ?_ ?_ | (refine cbi (fun hb => ?_) (fun hb => ?_) <;> cbv)
 all_goals (subst hO hr hF; (try simp only [stdO, SS, sa, az] at *); (try simp only [nc] at *); (try simp only [onc] at *))
 all_goals (try simp only [Ma0.F0] at *)
 all_goals (try have t := inR_t.1 hb)
 all_goals (try have z : arI .sub .i64 n l = n - l := sub64 (by omega))
 all_goals (try simp only [z] at *)
 all_goals first | (show (_ : List DV) = _; refine db_eq ?_; unfold rngIn; simp [hb]; done) | exact True.intro | done
theorem c_spec_l19In (n a l : Int) (hp : 0 <= n /\ n <= 1099511627776) : Ctr Tryz.prog 137 [.one (.v (.int .i64 n)), .agg [.v (.int .i64 a), .v (.int .i64 l)]] [.one (.v (.bool (rngIn n a l)))] := by
 refine ctr_b Ma0.B tabOk mixed 18 _ [4] [.tmp 4] Tryz.func137 rfl rfl rfl rfl rfl ?_
 intro O r (F : Ma0.Fns) hO hr (hF : F = Ma0.F0)
 cbv
 repeat' first | refine And.intro ?_ ?_ | (refine cbi (fun hb => ?_) (fun hb => ?_) <;> cbv)
 all_goals (subst hO hr hF; (try simp only [stdO, SS, sa, az] at *); (try simp only [nc] at *); (try simp only [onc] at *))
 all_goals (try simp only [Ma0.F0] at *)
 all_goals (try have t := inR_t.1 hb)
 all_goals (try have z : arI .sub .i64 n l = n - l := sub64 (by omega))
 all_goals (try simp only [z] at *)
 all_goals first | (show (_ : List DV) = _; refine db_eq ?_; unfold rngIn; simp [hb]; done) | exact True.intro | done
namespace Ma1
structure Fns where
 inR : Int -> Int -> Int -> Bool
 rngIn : Int -> Int -> Int -> Bool
def F0 : Fns := ⟨inR, rngIn⟩
def ct (F : Fns) : CT := fun f ds => match f with
 | 87 => match ds with
   | [.one (.v (.int .i64 x)), .one (.v (.int .i64 a)), .one (.v (.int .i64 b))] => some (fun _ => True, [.one (.v (.bool (F.inR x a b)))])
   | _ => none
 | 71 => match ds with
   | [.one (.v (.int .i64 x)), .one (.v (.int .i64 a)), .one (.v (.int .i64 b))] => some (fun _ => True, [.one (.v (.bool (F.inR x a b)))])
   | _ => none
 | 151 => match ds with
   | [.one (.v (.int .i64 n)), .agg [.v (.int .i64 a), .v (.int .i64 l)]] => some (fun _ => 0 <= n /\ n <= 1099511627776, [.one (.v (.bool (F.rngIn n a l)))])
   | _ => none
 | 137 => match ds with
   | [.one (.v (.int .i64 n)), .agg [.v (.int .i64 a), .v (.int .i64 l)]] => some (fun _ => 0 <= n /\ n <= 1099511627776, [.one (.v (.bool (F.rngIn n a l)))])
   | _ => none
 | _ => none
theorem ct_ok : CTok Tryz.prog (ct F0) := by
 intro f ds pre res h hp
 unfold ct at h
 split at h <;> (try split at h) <;> cases h
 exact c_impl_between _ _ _ hp
 exact c_spec_l01In _ _ _ hp
 exact c_impl_rangeIn _ _ _ hp
 exact c_spec_l19In _ _ _ hp
def B : TB Tryz.prog := tb ct_ok
end Ma1
theorem c_impl_RangesOk (n : Int) (rs : List (List L)) (hp : 0 <= n /\ n <= 1099511627776 /\ Rw [tI, tI] rs /\ rs.length <= 1099511627776) : Ctr Tryz.prog 78 [.one (.v (.int .i64 n)), .one (.s 2 rs)] [.one (.v (.bool (rgOk n rs)))] := by
 obtain ⟨n0, n1, hw, hl⟩ := hp
 refine ctr_b Ma1.B tabOk mixed 43 _ [4] [.tmp 4] Tryz.func78 rfl rfl rfl rfl rfl ?_
 intro O r (F : Ma1.Fns) hO hr (hF : F = Ma1.F0)
 cbv
 repeat' first | refine And.intro ?_ ?_ | (refine cbi (fun hb => ?_) (fun hb => ?_) <;> cbv) | (refine ⟨[0, 1, 7, 8, 9], [], Int, fun i => [.reg 9 (.one (.v (.int .i64 i)))], fun i => 0 <= i /\ i <= ((rs.length : Nat) : Int) /\ upto (rngA n rs) i, fun i => (rs.length) - i.toNat, ⟨0, ?_, ?_⟩, ?_⟩; rotate_left; (focus (cbv; done)); intro i hi; replace hi : 0 <= i /\ i <= ((rs.length : Nat) : Int) /\ upto (rngA n rs) i := hi; obtain ⟨i0, i1, i2⟩ := hi; cbv) | (refine loop_step (O.ar .add .i64 i 1) ?_ ?_ ?_; rotate_left 2; focus (cbv; done))
 all_goals (subst hO hr hF; (try simp only [stdO, SS, sa, az] at *); (try simp only [nc] at *); (try simp only [onc] at *))
 all_goals (try simp only [Ma1.F0] at *)
 all_goals try rw [up64 (by omega) (by omega)]
 all_goals (try have z := sub1 i0 (by omega))
 all_goals (try simp only [z] at *)
 all_goals first
  | (show (_ : List DV) = _
     first
      | (refine db_eq ?_; symm; exact rg_no1 i0 (by assumption) (by assumption))
      | (refine db_eq ?_; symm; exact rg_no2 i0 (by assumption) (by assumption) (by assumption))
      | (refine db_eq ?_; exact rg_end i2 (by omega))
      | (have q : false = true := (by assumption); cases q)
      | done)
  | omega
  | (refine ⟨by omega, by omega, (Rw.eta (by first | assumption | exact Rw.sub (by first | assumption | exact Rw.sub (by assumption) (by omega) rfl) (by omega) rfl) (by omega) (by omega)).trans ?_⟩; rfl)
  | (show okOrder _ _ = true; kernel_rfl)
  | exact ⟨n0, n1⟩
  | exact upto_z
  | exact upto_s i2 (rg_yes1 (by assumption) (by omega))
  | exact upto_s i2 (rg_yes2 (by assumption) (by assumption))
  | exact True.intro
  | done
theorem c_spec_RangesOk (n : Int) (rs : List (List L)) (hp : 0 <= n /\ n <= 1099511627776 /\ Rw [tI, tI] rs /\ rs.length <= 1099511627776) : Ctr Tryz.prog 64 [.one (.v (.int .i64 n)), .one (.s 2 rs)] [.one (.v (.bool (rgOk n rs)))] := by
 obtain ⟨n0, n1, hw, hl⟩ := hp
 refine ctr_b Ma1.B tabOk mixed 46 _ [4] [.tmp 4] Tryz.func64 rfl rfl rfl rfl rfl ?_
 intro O r (F : Ma1.Fns) hO hr (hF : F = Ma1.F0)
 cbv
 repeat' first | refine And.intro ?_ ?_ | (refine cbi (fun hb => ?_) (fun hb => ?_) <;> cbv) | (refine ⟨[0, 1, 5], [], Int, fun i => [.reg 5 (.one (.v (.int .i64 i)))], fun i => 0 <= i /\ i <= ((rs.length : Nat) : Int) /\ upto (rngA n rs) i, fun i => (rs.length) - i.toNat, ⟨0, ?_, ?_⟩, ?_⟩; rotate_left; (focus (cbv; done)); intro i hi; replace hi : 0 <= i /\ i <= ((rs.length : Nat) : Int) /\ upto (rngA n rs) i := hi; obtain ⟨i0, i1, i2⟩ := hi; cbv) | (refine loop_step (O.ar .add .i64 i 1) ?_ ?_ ?_; rotate_left 2; focus (cbv; done))
 all_goals (subst hO hr hF; (try simp only [stdO, SS, sa, az] at *); (try simp only [nc] at *); (try simp only [onc] at *))
 all_goals (try simp only [Ma1.F0] at *)
 all_goals try rw [up64 (by omega) (by omega)]
 all_goals (try have z := sub1 i0 (by omega))
 all_goals (try simp only [z] at *)
 all_goals first
  | (show (_ : List DV) = _
     first
      | (refine db_eq ?_; symm; exact rg_no1 i0 (by assumption) (by assumption))
      | (refine db_eq ?_; symm; exact rg_no2 i0 (by assumption) (by assumption) (by assumption))
      | (refine db_eq ?_; exact rg_end i2 (by omega))
      | (have q : false = true := (by assumption); cases q)
      | done)
  | omega
  | (refine ⟨by omega, by omega, (Rw.eta (by first | assumption | exact Rw.sub (by first | assumption | exact Rw.sub (by assumption) (by omega) rfl) (by omega) rfl) (by omega) (by omega)).trans ?_⟩; rfl)
  | (show okOrder _ _ = true; kernel_rfl)
  | exact ⟨n0, n1⟩
  | exact upto_z
  | exact upto_s i2 (rg_yes1 (by assumption) (by omega))
  | exact upto_s i2 (rg_yes2 (by assumption) (by assumption))
  | exact True.intro
  | done
namespace Ma2
structure Fns where
 no : Unit
def F0 : Fns := ⟨()⟩
def B : TB Tryz.prog := {Φ := Fns, F0 := F0}
end Ma2
theorem c_impl_RangeHas_1 (a l p : Int) (hp : True) : Ctr Tryz.prog 209 [.agg [.v (.int .i64 a), .v (.int .i64 l)], .ptr [.v (.int .i64 p)]] [.one (.v (.bool (rh1 a l p)))] := by
 refine ctr_b Ma2.B tabOk mixed 17 _ [4] [.tmp 3] Tryz.func209 rfl rfl rfl rfl rfl ?_
 intro O r (F : Ma2.Fns) hO hr (hF : F = Ma2.F0)
 cbv
 repeat' first | refine And.intro ?_ ?_ | (refine cbi (fun hb => ?_) (fun hb => ?_) <;> cbv)
 all_goals (subst hO hr hF; (try simp only [stdO, SS, sa, az] at *); (try simp only [nc] at *); (try simp only [onc] at *))
 all_goals first | (show (_ : List DV) = _; refine db_eq ?_; unfold rh1; simp [hb]; done) | (show (_ : List DV) = _; refine db_eq ?_; unfold rh1; rw [decide_eq_true hb]; rfl) | (show (_ : List DV) = _; refine db_eq ?_; unfold rh1; rw [decide_eq_false (by omega)]; rfl) | exact True.intro | done
namespace Ma3
structure Fns where
 rh1 : Int -> Int -> Int -> Bool
def F0 : Fns := ⟨rh1⟩
def ct (F : Fns) : CT := fun f ds => match f with
 | 209 => match ds with
   | [.agg [.v (.int .i64 a), .v (.int .i64 l)], .ptr [.v (.int .i64 p)]] => some (fun _ => True, [.one (.v (.bool (F.rh1 a l p)))])
   | _ => none
 | _ => none
theorem ct_ok : CTok Tryz.prog (ct F0) := by
 intro f ds pre res h hp
 unfold ct at h
 split at h <;> (try split at h) <;> cases h
 exact c_impl_RangeHas_1 _ _ _ hp
def B : TB Tryz.prog := tb ct_ok
end Ma3
theorem c_slices_IndexFunc_loop_example_g00978_impl_Range_loop_example_g00978_impl_Range (os : List (List L)) (id : Int) (hp : Rw [tI, tI] os /\ os.length <= 1099511627776) : Ctr Tryz.prog 237 [.one (.s 2 os), .fn 209 [[.v (.int .i64 id)]]] [.one (.v (.int .i64 (rhI os id)))] := by
 obtain ⟨hw, hn⟩ := hp
 refine ctr_b Ma3.B tabOk mixed 19 _ [3] [.tmp 4] Tryz.func237 rfl rfl rfl rfl rfl ?_
 intro O r (F : Ma3.Fns) hO hr (hF : F = Ma3.F0)
 cbv
 repeat' first | refine And.intro ?_ ?_ | (refine cbi (fun hb => ?_) (fun hb => ?_) <;> cbv) | (refine ⟨[0, 1, 7, 8], [0], Int, fun i => [.reg 8 (.one (.v (.int .i64 i)))], fun i => 0 <= i /\ i <= ((os.length : Nat) : Int) /\ upto (notB (isRh os id)) i, fun i => (os.length) - i.toNat, ⟨0, ?_, ?_⟩, ?_⟩; rotate_left; (focus (cbv; done)); intro i hi; replace hi : 0 <= i /\ i <= ((os.length : Nat) : Int) /\ upto (notB (isRh os id)) i := hi; obtain ⟨i0, i1, i2⟩ := hi; cbv) | (refine loop_step (O.ar .add .i64 i 1) ?_ ?_ ?_; rotate_left 2; focus (cbv; done))
 all_goals (subst hO hr hF; (try simp only [stdO, SS, sa, az] at *); (try simp only [nc] at *); (try simp only [onc] at *))
 all_goals (try simp only [Ma3.F0] at *)
 all_goals try rw [up64 (by omega) (by omega)]
 all_goals first
  | (show (_ : List DV) = _
     first
      | exact di_eq (first_at i2 i0 (by assumption) (show isRh os id i = true from by assumption)).symm
      | exact di_eq (first_no i2 (by assumption)).symm
      | done)
  | omega
  | (refine ⟨by omega, by omega, (Rw.eta (by first | assumption | exact Rw.sub (by first | assumption | exact Rw.sub (by assumption) (by omega) rfl) (by omega) rfl) (by omega) (by omega)).trans ?_⟩; rfl)
  | (show (lk _ _).isSome = true; kernel_rfl)
  | exact upto_z
  | exact upto_s i2 (notB_f (show isRh os id i = false from by assumption))
  | exact ⟨trivial, trivial⟩
  | trivial
  | done
namespace Ma4
structure Fns where
 rhI : List (List L) -> Int -> Int
def F0 : Fns := ⟨rhI⟩
def ct (F : Fns) : CT := fun f ds => match f with
 | 237 => match ds with
   | [.one (.s 2 os), .fn 209 [[.v (.int .i64 id)]]] => some (fun _ => Rw [tI, tI] os /\ os.length <= 1099511627776, [.one (.v (.int .i64 (F.rhI os id)))])
   | _ => none
 | _ => none
theorem ct_ok : CTok Tryz.prog (ct F0) := by
 intro f ds pre res h hp
 unfold ct at h
 split at h <;> (try split at h) <;> cases h
 exact c_slices_IndexFunc_loop_example_g00978_impl_Range_loop_example_g00978_impl_Range _ _ hp
def B : TB Tryz.prog := tb ct_ok
end Ma4
theorem c_slices_ContainsFunc_loop_example_g00978_impl_Range_loop_example_g00978_impl_Range (os : List (List L)) (id : Int) (hp : Rw [tI, tI] os /\ os.length <= 1099511627776) : Ctr Tryz.prog 208 [.one (.s 2 os), .fn 209 [[.v (.int .i64 id)]]] [.one (.v (.bool (rhB os id)))] := by
 refine ctr_b Ma4.B tabOk mixed 9 _ [4] [.tmp 4] Tryz.func208 rfl rfl rfl rfl rfl ?_
 intro O r (F : Ma4.Fns) hO hr (hF : F = Ma4.F0)
 cbv
 repeat' first | refine And.intro ?_ ?_ | (refine cbi (fun hb => ?_) (fun hb => ?_) <;> cbv)
 all_goals (subst hO hr hF; (try simp only [stdO, SS, sa, az] at *); (try simp only [nc] at *); (try simp only [onc] at *))
 all_goals (try simp only [Ma4.F0] at *)
 all_goals first
  | (show (_ : List DV) = _
     first
      | exact db_eq (decide_eq_true (by assumption)).symm
      | exact db_eq (decide_eq_false (by omega)).symm
      | exact db_eq (b_iff (by unfold rhB; simp only [SS, decide_eq_true_eq]))
      | exact rfl
      | done)
  | exact hp
  | exact rfl
  | trivial
  | done
namespace Ma5
structure Fns where
 rhB : List (List L) -> Int -> Bool
def F0 : Fns := ⟨rhB⟩
def ct (F : Fns) : CT := fun f ds => match f with
 | 208 => match ds with
   | [.one (.s 2 os), .fn 209 [[.v (.int .i64 id)]]] => some (fun _ => Rw [tI, tI] os /\ os.length <= 1099511627776, [.one (.v (.bool (F.rhB os id)))])
   | _ => none
 | _ => none
theorem ct_ok : CTok Tryz.prog (ct F0) := by
 intro f ds pre res h hp
 unfold ct at h
 split at h <;> (try split at h) <;> cases h
 exact c_slices_ContainsFunc_loop_example_g00978_impl_Range_loop_example_g00978_impl_Range _ _ hp
def B : TB Tryz.prog := tb ct_ok
end Ma5
theorem c_impl_RangeHas (os : List (List L)) (id : Int) (hp : Rw [tI, tI] os /\ os.length <= 1099511627776) : Ctr Tryz.prog 157 [.one (.s 2 os), .one (.v (.int .i64 id))] [.one (.v (.bool (rhB os id)))] := by
 refine ctr_b Ma5.B tabOk mixed 8 _ [4] [.tmp 4] Tryz.func157 rfl rfl rfl rfl rfl ?_
 intro O r (F : Ma5.Fns) hO hr (hF : F = Ma5.F0)
 cbv
 repeat' first | refine And.intro ?_ ?_ | (refine cbi (fun hb => ?_) (fun hb => ?_) <;> cbv)
 all_goals (subst hO hr hF; (try simp only [stdO, SS, sa, az] at *); (try simp only [nc] at *); (try simp only [onc] at *))
 all_goals first | exact hp | exact rfl | trivial | done
theorem c_spec_RangeHas (os : List (List L)) (id : Int) (hp : Rw [tI, tI] os /\ os.length <= 1099511627776) : Ctr Tryz.prog 141 [.one (.s 2 os), .one (.v (.int .i64 id))] [.one (.v (.bool (rhB os id)))] := by
 obtain ⟨hw, hn⟩ := hp
 refine ctr_b Ma2.B tabOk mixed 34 _ [4] [.tmp 4] Tryz.func141 rfl rfl rfl rfl rfl ?_
 intro O r (F : Ma2.Fns) hO hr (hF : F = Ma2.F0)
 cbv
 repeat' first | refine And.intro ?_ ?_ | (refine cbi (fun hb => ?_) (fun hb => ?_) <;> cbv) | (refine ⟨[0, 1, 5], [], Int, fun i => [.reg 5 (.one (.v (.int .i64 i)))], fun i => 0 <= i /\ i <= ((os.length : Nat) : Int) /\ upto (notB (isRh os id)) i, fun i => (os.length) - i.toNat, ⟨0, ?_, ?_⟩, ?_⟩; rotate_left; (focus (cbv; done)); intro i hi; replace hi : 0 <= i /\ i <= ((os.length : Nat) : Int) /\ upto (notB (isRh os id)) i := hi; obtain ⟨i0, i1, i2⟩ := hi; cbv) | (refine loop_step (O.ar .add .i64 i 1) ?_ ?_ ?_; rotate_left 2; focus (cbv; done))
 all_goals (subst hO hr hF; (try simp only [stdO, SS, sa, az] at *); (try simp only [nc] at *); (try simp only [onc] at *))
 all_goals try rw [up64 (by omega) (by omega)]
 all_goals first
  | (show (_ : List DV) = _
     first
      | (refine db_eq ?_; symm; exact rh_yes i2 i0 (by assumption) (by assumption) (by assumption))
      | (refine db_eq ?_; symm; exact rh_no i2 (by omega))
      | done)
  | omega
  | (refine ⟨by omega, by omega, (Rw.eta (by first | assumption | exact Rw.sub (by first | assumption | exact Rw.sub (by assumption) (by omega) rfl) (by omega) rfl) (by omega) (by omega)).trans ?_⟩; rfl)
  | (show okOrder _ _ = true; kernel_rfl)
  | exact upto_z
  | exact upto_s i2 (rh_f1 (by omega))
  | exact upto_s i2 (rh_f2 (by omega))
  | exact True.intro
  | done
namespace Ma6
structure Fns where
 spOk : Int -> Int -> Int -> Bool
def F0 : Fns := ⟨spOk⟩
def ct (F : Fns) : CT := fun f ds => match f with
 | 153 => match ds with
   | [.agg [.v (.int .i64 p), .v (.int .i64 k), .v (.int .i64 b)]] => some (fun _ => True, [.one (.v (.bool (F.spOk p k b)))])
   | _ => none
 | 138 => match ds with
   | [.agg [.v (.int .i64 p), .v (.int .i64 k), .v (.int .i64 b)]] => some (fun _ => True, [.one (.v (.bool (F.spOk p k b)))])
   | _ => none
 | _ => none
theorem ct_ok : CTok Tryz.prog (ct F0) := by
 intro f ds pre res h hp
 unfold ct at h
 split at h <;> (try split at h) <;> cases h
 exact c_impl_SpanOk _ _ _ hp
 exact c_spec_SpanOk _ _ _ hp
def B : TB Tryz.prog := tb ct_ok
end Ma6
theorem c_impl_Meshable (p1 k1 b1 p2 k2 b2 : Int) (hp : True) : Ctr Tryz.prog 159 [.agg [.v (.int .i64 p1), .v (.int .i64 k1), .v (.int .i64 b1)], .agg [.v (.int .i64 p2), .v (.int .i64 k2), .v (.int .i64 b2)]] [.one (.v (.bool (mshB p1 k1 b1 p2 k2 b2)))] := by
 refine ctr_b Ma6.B tabOk mixed 33 _ [4] [.tmp 4] Tryz.func159 rfl rfl rfl rfl rfl ?_
 intro O r (F : Ma6.Fns) hO hr (hF : F = Ma6.F0)
 cbv
 repeat' first | refine And.intro ?_ ?_ | (refine cbi (fun hb => ?_) (fun hb => ?_) <;> cbv)
 all_goals (subst hO hr hF; (try simp only [stdO, SS, sa, az] at *); (try simp only [nc] at *); (try simp only [onc] at *))
 all_goals (try simp only [Ma6.F0] at *)
 all_goals first | (show (_ : List DV) = _; refine db_eq ?_; unfold mshB; simp [*]; done) | (show (_ : List DV) = _; refine db_eq ?_; unfold mshB; subst_vars; rw [cmp_eq]; simp [*]; done) | exact True.intro | done
theorem c_spec_Meshable (p1 k1 b1 p2 k2 b2 : Int) (hp : True) : Ctr Tryz.prog 142 [.agg [.v (.int .i64 p1), .v (.int .i64 k1), .v (.int .i64 b1)], .agg [.v (.int .i64 p2), .v (.int .i64 k2), .v (.int .i64 b2)]] [.one (.v (.bool (mshB p1 k1 b1 p2 k2 b2)))] := by
 refine ctr_b Ma6.B tabOk mixed 33 _ [4] [.tmp 4] Tryz.func142 rfl rfl rfl rfl rfl ?_
 intro O r (F : Ma6.Fns) hO hr (hF : F = Ma6.F0)
 cbv
 repeat' first | refine And.intro ?_ ?_ | (refine cbi (fun hb => ?_) (fun hb => ?_) <;> cbv)
 all_goals (subst hO hr hF; (try simp only [stdO, SS, sa, az] at *); (try simp only [nc] at *); (try simp only [onc] at *))
 all_goals (try simp only [Ma6.F0] at *)
 all_goals first | (show (_ : List DV) = _; refine db_eq ?_; unfold mshB; simp [*]; done) | (show (_ : List DV) = _; refine db_eq ?_; unfold mshB; subst_vars; rw [cmp_eq]; simp [*]; done) | exact True.intro | done
namespace Ma7
structure Fns where
 clsSz : Int -> Int
def F0 : Fns := ⟨clsSz⟩
def ct (F : Fns) : CT := fun f ds => match f with
 | 163 => match ds with
   | [.one (.v (.int .i64 k))] => some (fun _ => True, [.one (.v (.int .i64 (F.clsSz k)))])
   | _ => none
 | 146 => match ds with
   | [.one (.v (.int .i64 k))] => some (fun _ => True, [.one (.v (.int .i64 (F.clsSz k)))])
   | _ => none
 | _ => none
theorem ct_ok : CTok Tryz.prog (ct F0) := by
 intro f ds pre res h hp
 unfold ct at h
 split at h <;> (try split at h) <;> cases h
 exact c_impl_ClassSize _ hp
 exact c_spec_ClassSize _ hp
def B : TB Tryz.prog := tb ct_ok
end Ma7
theorem c_impl_quarCells (qs : List (List L)) (hp : Rw [tI, tI, tI] qs /\ qs.length <= 1073741824) : Ctr Tryz.prog 161 [.one (.s 3 qs)] [.one (.v (.int .i64 (qcI qs)))] := by
 obtain ⟨hw, hl⟩ := hp
 refine ctr_b Ma7.B tabOk mixed 19 _ [3] [.tmp 2] Tryz.func161 rfl rfl rfl rfl rfl ?_
 intro O r (F : Ma7.Fns) hO hr (hF : F = Ma7.F0)
 cbv
 repeat' first | refine And.intro ?_ ?_ | (refine cbi (fun hb => ?_) (fun hb => ?_) <;> cbv) | (refine ⟨[3, 6, 7, 8], [], Int × Int, fun s_ => match s_ with | (i, t) => [.reg 8 (.one (.v (.int .i64 i))), .reg 3 (.one (.v (.int .i64 t)))], fun s_ => match s_ with | (i, t) => 0 <= i /\ i <= (qs.length : Int) /\ QcP qs i t, fun s_ => match s_ with | (i, t) => qs.length - i.toNat, ⟨(0, 0), ?_, ?_⟩, ?_⟩; rotate_left; (focus (cbv; done)); intro s_ hi; obtain ⟨i, t⟩ := s_; replace hi : 0 <= i /\ i <= (qs.length : Int) /\ QcP qs i t := hi; obtain ⟨i0, i1, i2⟩ := hi; cbv) | (refine loop_step (O.ar .add .i64 i 1, O.ar .add .i64 t (F.clsSz (O.gi qs i 1))) ?_ ?_ ?_; rotate_left 2; focus (cbv; done))
 all_goals (subst hO hr hF; (try simp only [stdO, SS, sa, az] at *); (try simp only [nc] at *); (try simp only [onc] at *))
 all_goals (try simp only [Ma7.F0] at *)
 all_goals try rw [up64 (by omega) (by omega)]
 all_goals first | (show (_ : List DV) = _; exact di_eq (qc_end i2 i1 (by omega))) | omega | (refine ⟨by omega, by omega, (Rw.eta (by first | assumption | exact Rw.sub (by first | assumption | exact Rw.sub (by assumption) (by omega) rfl) (by omega) rfl) (by omega) (by omega)).trans ?_⟩; rfl) | exact qc_0 | exact qc_up i2 i0 (by omega) | exact Int.natCast_nonneg _ | exact True.intro | done
theorem c_spec_l22Cells (qs : List (List L)) (hp : Rw [tI, tI, tI] qs /\ qs.length <= 1073741824) : Ctr Tryz.prog 145 [.one (.s 3 qs)] [.one (.v (.int .i64 (qcI qs)))] := by
 obtain ⟨hw, hl⟩ := hp
 refine ctr_b Ma7.B tabOk mixed 20 _ [3] [.tmp 2] Tryz.func145 rfl rfl rfl rfl rfl ?_
 intro O r (F : Ma7.Fns) hO hr (hF : F = Ma7.F0)
 cbv
 repeat' first | refine And.intro ?_ ?_ | (refine cbi (fun hb => ?_) (fun hb => ?_) <;> cbv) | (refine ⟨[0, 3, 4], [], Int × Int, fun s_ => match s_ with | (i, t) => [.reg 4 (.one (.v (.int .i64 i))), .reg 3 (.one (.v (.int .i64 t)))], fun s_ => match s_ with | (i, t) => 0 <= i /\ i <= (qs.length : Int) /\ QcP qs i t, fun s_ => match s_ with | (i, t) => qs.length - i.toNat, ⟨(0, 0), ?_, ?_⟩, ?_⟩; rotate_left; (focus (cbv; done)); intro s_ hi; obtain ⟨i, t⟩ := s_; replace hi : 0 <= i /\ i <= (qs.length : Int) /\ QcP qs i t := hi; obtain ⟨i0, i1, i2⟩ := hi; cbv) | (refine loop_step (O.ar .add .i64 i 1, O.ar .add .i64 t (F.clsSz (O.gi qs i 1))) ?_ ?_ ?_; rotate_left 2; focus (cbv; done))
 all_goals (subst hO hr hF; (try simp only [stdO, SS, sa, az] at *); (try simp only [nc] at *); (try simp only [onc] at *))
 all_goals (try simp only [Ma7.F0] at *)
 all_goals try rw [up64 (by omega) (by omega)]
 all_goals first | (show (_ : List DV) = _; exact di_eq (qc_end i2 i1 (by omega))) | omega | (refine ⟨by omega, by omega, (Rw.eta (by first | assumption | exact Rw.sub (by first | assumption | exact Rw.sub (by assumption) (by omega) rfl) (by omega) rfl) (by omega) (by omega)).trans ?_⟩; rfl) | exact qc_0 | exact qc_up i2 i0 (by omega) | exact Int.natCast_nonneg _ | exact True.intro | done
namespace Ma8
structure Fns where
 inR : Int -> Int -> Int -> Bool
 qtB : List (List L) -> Int -> Bool
def F0 : Fns := ⟨inR, qtB⟩
def ct (F : Fns) : CT := fun f ds => match f with
 | 162 => match ds with
   | [.one (.v (.int .i64 k))] => some (fun _ => True, [.one (.v (.bool (F.inR k 0 3)))])
   | _ => none
 | 119 => match ds with
   | [.one (.s 3 os), .one (.v (.int .i64 id))] => some (fun _ => Rw [tI, tI, tI] os /\ os.length <= 1099511627776, [.one (.v (.bool (F.qtB os id)))])
   | _ => none
 | 71 => match ds with
   | [.one (.v (.int .i64 x)), .one (.v (.int .i64 a)), .one (.v (.int .i64 b))] => some (fun _ => True, [.one (.v (.bool (F.inR x a b)))])
   | _ => none
 | _ => none
theorem ct_ok : CTok Tryz.prog (ct F0) := by
 intro f ds pre res h hp
 unfold ct at h
 split at h <;> (try split at h) <;> cases h
 exact c_impl_classOk _ hp
 exact c_impl_hasStale _ _ hp
 exact c_spec_l01In _ _ _ hp
def B : TB Tryz.prog := tb ct_ok
end Ma8
theorem c_impl_staleOk (b : List (List L)) (a c s : Int) (hp : Rw [tI, tI, tI] b /\ b.length <= 1073741824) : Ctr Tryz.prog 160 [.one (.s 3 b), .agg [.v (.int .i64 a), .v (.int .i64 c), .v (.int .i64 s)]] [.one (.v (.bool (stlOk b a c s)))] := by
 obtain ⟨hw, hl⟩ := hp
 have hs : arI .sub .i64 (b.length : Int) 1 = b.length - 1 := sub64 (by omega)
 refine ctr_b Ma8.B tabOk mixed 40 _ [4] [.tmp 4] Tryz.func160 rfl rfl rfl rfl rfl ?_
 intro O r (F : Ma8.Fns) hO hr (hF : F = Ma8.F0)
 cbv
 repeat' first | refine And.intro ?_ ?_ | (refine cbi (fun hb => ?_) (fun hb => ?_) <;> cbv)
 all_goals (subst hO hr hF; (try simp only [stdO, SS, sa, az] at *); (try simp only [nc] at *); (try simp only [onc] at *))
 all_goals (try simp only [Ma8.F0] at *)
 all_goals (try simp only [hs] at *)
 all_goals first | exact True.intro | omega | (refine ⟨by omega, by omega, (Rw.eta (by first | assumption | exact Rw.sub (by first | assumption | exact Rw.sub (by assumption) (by omega) rfl) (by omega) rfl) (by omega) (by omega)).trans ?_⟩; rfl) | (show okOrder _ _ = true; kernel_rfl) | exact ⟨hw, by omega⟩ | (show (_ : List DV) = _; refine db_eq ?_; unfold stlOk; simp [*, cmpI]; done) | (show (_ : List DV) = _; refine db_eq ?_; unfold stlOk; rw [decide_eq_false (p := 0 <= a) (by omega)]; simp; done) | (show (_ : List DV) = _; refine db_eq ?_; unfold stlOk; rw [decide_eq_false (p := 0 <= s) (by omega)]; simp; done) | (show (_ : List DV) = _; refine db_eq ?_; unfold stlOk; rw [decide_eq_false (p := b.length = 0) (by omega)]; simp [*, cmpI]; done) | (show (_ : List DV) = _; refine db_eq ?_; unfold stlOk; simp_all; done) | done
theorem c_spec_l22One (a c s : Int) (hp : True) : Ctr Tryz.prog 143 [.agg [.v (.int .i64 a), .v (.int .i64 c), .v (.int .i64 s)]] [.one (.v (.bool (staB a c s)))] := by
 refine ctr_b Ma8.B tabOk mixed 16 _ [4] [.tmp 2] Tryz.func143 rfl rfl rfl rfl rfl ?_
 intro O r (F : Ma8.Fns) hO hr (hF : F = Ma8.F0)
 cbv
 repeat' first | refine And.intro ?_ ?_ | (refine cbi (fun hb => ?_) (fun hb => ?_) <;> cbv)
 all_goals (subst hO hr hF; (try simp only [stdO, SS, sa, az] at *); (try simp only [nc] at *); (try simp only [onc] at *))
 all_goals (try simp only [Ma8.F0] at *)
 all_goals first | exact True.intro | (show (_ : List DV) = _; refine db_eq ?_; unfold staB; simp [*, cmpI]; done) | (show (_ : List DV) = _; refine db_eq ?_; unfold staB; rw [decide_eq_false (p := 0 <= a) (by omega)]; simp; done) | done
namespace Ma9
structure Fns where
 inR : Int -> Int -> Int -> Bool
 stlOk : List (List L) -> Int -> Int -> Int -> Bool
 qcI : List (List L) -> Int
 staB : Int -> Int -> Int -> Bool
 qtB : List (List L) -> Int -> Bool
def F0 : Fns := ⟨inR, stlOk, qcI, staB, qtB⟩
def ct (F : Fns) : CT := fun f ds => match f with
 | 87 => match ds with
   | [.one (.v (.int .i64 x)), .one (.v (.int .i64 a)), .one (.v (.int .i64 b))] => some (fun _ => True, [.one (.v (.bool (F.inR x a b)))])
   | _ => none
 | 160 => match ds with
   | [.one (.s 3 b), .agg [.v (.int .i64 a), .v (.int .i64 c), .v (.int .i64 s)]] => some (fun _ => Rw [tI, tI, tI] b /\ b.length <= 1073741824, [.one (.v (.bool (F.stlOk b a c s)))])
   | _ => none
 | 161 => match ds with
   | [.one (.s 3 qs)] => some (fun _ => Rw [tI, tI, tI] qs /\ qs.length <= 1073741824, [.one (.v (.int .i64 (F.qcI qs)))])
   | _ => none
 | 71 => match ds with
   | [.one (.v (.int .i64 x)), .one (.v (.int .i64 a)), .one (.v (.int .i64 b))] => some (fun _ => True, [.one (.v (.bool (F.inR x a b)))])
   | _ => none
 | 143 => match ds with
   | [.agg [.v (.int .i64 a), .v (.int .i64 c), .v (.int .i64 s)]] => some (fun _ => True, [.one (.v (.bool (F.staB a c s)))])
   | _ => none
 | 144 => match ds with
   | [.agg [.v (.int .i64 rm), .s 3 os], .one (.v (.int .i64 id))] => some (fun _ => Rw [tI, tI, tI] os /\ os.length <= 1099511627776, [.one (.v (.bool (F.qtB os id)))])
   | _ => none
 | 145 => match ds with
   | [.one (.s 3 qs)] => some (fun _ => Rw [tI, tI, tI] qs /\ qs.length <= 1073741824, [.one (.v (.int .i64 (F.qcI qs)))])
   | _ => none
 | _ => none
theorem ct_ok : CTok Tryz.prog (ct F0) := by
 intro f ds pre res h hp
 unfold ct at h
 split at h <;> (try split at h) <;> cases h
 exact c_impl_between _ _ _ hp
 exact c_impl_staleOk _ _ _ _ hp
 exact c_impl_quarCells _ hp
 exact c_spec_l01In _ _ _ hp
 exact c_spec_l22One _ _ _ hp
 exact c_spec_QuarHas _ _ _ hp
 exact c_spec_l22Cells _ hp
def B : TB Tryz.prog := tb ct_ok
end Ma9
theorem c_impl_QuarOk (rm : Int) (qs : List (List L)) (hp : Rw [tI, tI, tI] qs /\ qs.length <= 1073741824) : Ctr Tryz.prog 82 [.agg [.v (.int .i64 rm), .s 3 qs]] [.one (.v (.bool (quarOk rm qs)))] := by
 obtain ⟨hw, hl⟩ := hp
 refine ctr_b Ma9.B tabOk mixed 32 _ [4] [.tmp 2] Tryz.func82 rfl rfl rfl rfl rfl ?_
 intro O r (F : Ma9.Fns) hO hr (hF : F = Ma9.F0)
 cbv
 repeat' first | refine And.intro ?_ ?_ | (refine cbi (fun hb => ?_) (fun hb => ?_) <;> cbv) | (refine ⟨[1, 6, 7, 8], [1], Int, fun i => [.reg 8 (.one (.v (.int .i64 i)))], fun i => 0 <= i /\ i <= ((qs.length : Nat) : Int) /\ upto (qtA qs) i, fun i => (qs.length) - i.toNat, ⟨0, ?_, ?_⟩, ?_⟩; rotate_left; (focus (cbv; done)); intro i hi; replace hi : 0 <= i /\ i <= ((qs.length : Nat) : Int) /\ upto (qtA qs) i := hi; obtain ⟨i0, i1, i2⟩ := hi; cbv) | (refine loop_step (O.ar .add .i64 i 1) ?_ ?_ ?_; rotate_left 2; focus (cbv; done))
 all_goals (subst hO hr hF; (try simp only [stdO, SS, sa, az] at *); (try simp only [nc] at *); (try simp only [onc] at *))
 all_goals (try simp only [Ma9.F0] at *)
 all_goals try rw [up64 (by omega) (by omega)]
 all_goals (try simp only [sub_tk] at *)
 all_goals first
  | (show (_ : List DV) = _
     first
      | (refine db_eq ?_; symm; exact qo_no i0 (by assumption) (by assumption))
      | (refine db_eq ?_; rw [qo_end i2 (by omega)]; simp [*, cmpI]; done)
      | done)
  | omega
  | (refine ⟨by omega, by omega, (Rw.eta (by first | assumption | exact Rw.sub (by first | assumption | exact Rw.sub (by assumption) (by omega) rfl) (by omega) rfl) (by omega) (by omega)).trans ?_⟩; rfl)
  | (show okOrder _ _ = true; kernel_rfl)
  | exact ⟨hw, hl⟩
  | exact ⟨Rw.take hw _, by rw [List.length_take]; omega⟩
  | exact upto_z
  | exact upto_s i2 (by assumption)
  | exact True.intro
  | done
theorem c_spec_QuarOk (rm : Int) (qs : List (List L)) (hp : Rw [tI, tI, tI] qs /\ qs.length <= 1073741824) : Ctr Tryz.prog 69 [.agg [.v (.int .i64 rm), .s 3 qs]] [.one (.v (.bool (quarOk rm qs)))] := by
 obtain ⟨hw, hl⟩ := hp
 refine ctr_b Ma9.B tabOk mixed 57 _ [4] [.tmp 2] Tryz.func69 rfl rfl rfl rfl rfl ?_
 intro O r (F : Ma9.Fns) hO hr (hF : F = Ma9.F0)
 cbv
 repeat' first | refine And.intro ?_ ?_ | (refine cbi (fun hb => ?_) (fun hb => ?_) <;> cbv) | (refine ⟨[1, 3], [1], Int, fun i => [.reg 3 (.one (.v (.int .i64 i)))], fun i => 0 <= i /\ i <= ((qs.length : Nat) : Int) /\ upto (qtA qs) i, fun i => (qs.length) - i.toNat, ⟨0, ?_, ?_⟩, ?_⟩; rotate_left; (focus (cbv; done)); intro i hi; replace hi : 0 <= i /\ i <= ((qs.length : Nat) : Int) /\ upto (qtA qs) i := hi; obtain ⟨i0, i1, i2⟩ := hi; cbv) | (refine loop_step (O.ar .add .i64 i 1) ?_ ?_ ?_; rotate_left 2; focus (cbv; done))
 all_goals (subst hO hr hF; (try simp only [stdO, SS, sa, az] at *); (try simp only [nc] at *); (try simp only [onc] at *))
 all_goals (try simp only [Ma9.F0] at *)
 all_goals try rw [up64 (by omega) (by omega)]
 all_goals (try simp only [sub_tk] at *)
 all_goals (try have z := sub1 i0 (by omega))
 all_goals (try simp only [z] at *)
 all_goals first
  | (show (_ : List DV) = _
     first
      | (refine db_eq ?_; symm; exact qo_no i0 (by assumption) (qa_f1 (by assumption)))
      | (refine db_eq ?_; symm; exact qo_no i0 (by assumption) (qa_f2 (by omega) (by assumption) (by assumption)))
      | (refine db_eq ?_; symm; exact qo_no i0 (by assumption) (qa_f3 (by assumption)))
      | (refine db_eq ?_; rw [qo_end i2 (by omega)]; simp [*, cmpI]; done)
      | (have q : false = true := (by assumption); cases q)
      | done)
  | omega
  | (refine ⟨by omega, by omega, (Rw.eta (by first | assumption | exact Rw.sub (by first | assumption | exact Rw.sub (by assumption) (by omega) rfl) (by omega) rfl) (by omega) (by omega)).trans ?_⟩; rfl)
  | (show okOrder _ _ = true; kernel_rfl)
  | exact ⟨hw, hl⟩
  | exact ⟨Rw.take hw _, by rw [List.length_take]; omega⟩
  | exact upto_z
  | exact upto_s i2 (qa_t1 (by assumption) (by assumption) i0 (by omega))
  | exact upto_s i2 (qa_t2 (by assumption) (by assumption) (by omega) (by assumption) (by assumption))
  | exact True.intro
  | done
theorem c_impl_cellOk (c : Int) (hp : True) : Ctr Tryz.prog 213 [.one (.v (.int .i64 c))] [.one (.v (.bool (inR c 0 15)))] := by
 refine ctr_b Ma0.B tabOk mixed 5 _ [4] [.tmp 2] Tryz.func213 rfl rfl rfl rfl rfl ?_
 intro O r (F : Ma0.Fns) hO hr (hF : F = Ma0.F0)
 cbv
 repeat' first | refine And.intro ?_ ?_ | (refine cbi (fun hb => ?_) (fun hb => ?_) <;> cbv)
 all_goals (subst hO hr hF; (try simp only [stdO, SS, sa, az] at *); (try simp only [nc] at *); (try simp only [onc] at *))
 all_goals first | exact rfl | trivial | done
theorem c_impl_seedOk (c : Int) (hp : True) : Ctr Tryz.prog 86 [.one (.v (.int .i64 c))] [.one (.v (.bool (inR c 0 1073741823)))] := by
 refine ctr_b Ma0.B tabOk mixed 5 _ [4] [.tmp 2] Tryz.func86 rfl rfl rfl rfl rfl ?_
 intro O r (F : Ma0.Fns) hO hr (hF : F = Ma0.F0)
 cbv
 repeat' first | refine And.intro ?_ ?_ | (refine cbi (fun hb => ?_) (fun hb => ?_) <;> cbv)
 all_goals (subst hO hr hF; (try simp only [stdO, SS, sa, az] at *); (try simp only [nc] at *); (try simp only [onc] at *))
 all_goals first | exact rfl | trivial | done
namespace Mb1
structure Fns where
 inR : Int -> Int -> Int -> Bool
def F0 : Fns := ⟨inR⟩
def ct (F : Fns) : CT := fun f ds => match f with
 | 87 => match ds with
   | [.one (.v (.int .i64 x)), .one (.v (.int .i64 a)), .one (.v (.int .i64 b))] => some (fun _ => True, [.one (.v (.bool (F.inR x a b)))])
   | _ => none
 | 213 => match ds with
   | [.one (.v (.int .i64 c))] => some (fun _ => True, [.one (.v (.bool (F.inR c 0 15)))])
   | _ => none
 | 71 => match ds with
   | [.one (.v (.int .i64 x)), .one (.v (.int .i64 a)), .one (.v (.int .i64 b))] => some (fun _ => True, [.one (.v (.bool (F.inR x a b)))])
   | _ => none
 | _ => none
theorem ct_ok : CTok Tryz.prog (ct F0) := by
 intro f ds pre res h hp
 unfold ct at h
 split at h <;> (try split at h) <;> cases h
 exact c_impl_between _ _ _ hp
 exact c_impl_cellOk _ hp
 exact c_spec_l01In _ _ _ hp
def B : TB Tryz.prog := tb ct_ok
end Mb1
theorem c_impl_PlanOk (k m : Int) (cs : List (List L)) (hp : Rw [tI] cs /\ cs.length <= 1099511627776) : Ctr Tryz.prog 169 [.agg [.v (.int .i64 k), .v (.int .i64 m), .s 1 cs]] [.one (.v (.bool (plOk k m cs)))] := by
 obtain ⟨hw, hl⟩ := hp
 refine ctr_b Mb1.B tabOk mixed 46 _ [4] [.tmp 2] Tryz.func169 rfl rfl rfl rfl rfl ?_
 intro O r (F : Mb1.Fns) hO hr (hF : F = Mb1.F0)
 cbv
 repeat' first | refine And.intro ?_ ?_ | (refine cbi (fun hb => ?_) (fun hb => ?_) <;> cbv) | (refine ⟨[1, 6, 7, 8], [1], Int, fun i => [.reg 8 (.one (.v (.int .i64 i)))], fun i => 0 <= i /\ i <= ((cs.length : Nat) : Int) /\ upto (plA cs) i, fun i => (cs.length) - i.toNat, ⟨0, ?_, ?_⟩, ?_⟩; rotate_left; (focus (cbv; done)); intro i hi; replace hi : 0 <= i /\ i <= ((cs.length : Nat) : Int) /\ upto (plA cs) i := hi; obtain ⟨i0, i1, i2⟩ := hi; cbv) | (refine loop_step (O.ar .add .i64 i 1) ?_ ?_ ?_; rotate_left 2; focus (cbv; done))
 all_goals (subst hO hr hF; (try simp only [stdO, SS, sa, az] at *); (try simp only [nc] at *); (try simp only [onc] at *))
 all_goals (try simp only [Mb1.F0] at *)
 all_goals try rw [up64 (by omega) (by omega)]
 all_goals (try have z := sub1 i0 (by omega))
 all_goals (try simp only [z] at *)
 all_goals first
  | (show (_ : List DV) = _
     first
      | (refine db_eq ?_; symm; exact pl_no1 i0 (by assumption) (by assumption))
      | (refine db_eq ?_; symm; exact pl_no2 i0 (by assumption) (by omega) (by assumption))
      | (refine db_eq ?_; rw [pl_end i2 (by omega)]; simp [*, cmpI]; done)
      | (refine db_eq ?_; rw [pl_end i2 (by omega), cmp_ne]; simp [*]; done)
      | (have q : false = true := (by assumption); cases q)
      | done)
  | omega
  | (refine ⟨by omega, by omega, (Rw.eta (by first | assumption | exact Rw.sub (by first | assumption | exact Rw.sub (by assumption) (by omega) rfl) (by omega) rfl) (by omega) (by omega)).trans ?_⟩; rfl)
  | (show okOrder _ _ = true; kernel_rfl)
  | exact upto_z
  | exact upto_s i2 (pl_yes1 (by assumption) (by omega))
  | exact upto_s i2 (pl_yes2 (by assumption) (by assumption))
  | exact True.intro
  | done
theorem c_spec_PlanOk (k m : Int) (cs : List (List L)) (hp : Rw [tI] cs /\ cs.length <= 1099511627776) : Ctr Tryz.prog 149 [.agg [.v (.int .i64 k), .v (.int .i64 m), .s 1 cs]] [.one (.v (.bool (plOk k m cs)))] := by
 obtain ⟨hw, hl⟩ := hp
 refine ctr_b Mb1.B tabOk mixed 51 _ [4] [.tmp 2] Tryz.func149 rfl rfl rfl rfl rfl ?_
 intro O r (F : Mb1.Fns) hO hr (hF : F = Mb1.F0)
 cbv
 repeat' first | refine And.intro ?_ ?_ | (refine cbi (fun hb => ?_) (fun hb => ?_) <;> cbv) | (refine ⟨[1, 3], [1], Int, fun i => [.reg 3 (.one (.v (.int .i64 i)))], fun i => 0 <= i /\ i <= ((cs.length : Nat) : Int) /\ upto (plA cs) i, fun i => (cs.length) - i.toNat, ⟨0, ?_, ?_⟩, ?_⟩; rotate_left; (focus (cbv; done)); intro i hi; replace hi : 0 <= i /\ i <= ((cs.length : Nat) : Int) /\ upto (plA cs) i := hi; obtain ⟨i0, i1, i2⟩ := hi; cbv) | (refine loop_step (O.ar .add .i64 i 1) ?_ ?_ ?_; rotate_left 2; focus (cbv; done))
 all_goals (subst hO hr hF; (try simp only [stdO, SS, sa, az] at *); (try simp only [nc] at *); (try simp only [onc] at *))
 all_goals (try simp only [Mb1.F0] at *)
 all_goals try rw [up64 (by omega) (by omega)]
 all_goals (try have z := sub1 i0 (by omega))
 all_goals (try simp only [z] at *)
 all_goals first
  | (show (_ : List DV) = _
     first
      | (refine db_eq ?_; symm; exact pl_no1 i0 (by assumption) (by assumption))
      | (refine db_eq ?_; symm; exact pl_no2 i0 (by assumption) (by omega) (by assumption))
      | (refine db_eq ?_; rw [pl_end i2 (by omega)]; simp [*, cmpI]; done)
      | (refine db_eq ?_; rw [pl_end i2 (by omega), cmp_ne]; simp [*]; done)
      | (have q : false = true := (by assumption); cases q)
      | done)
  | omega
  | (refine ⟨by omega, by omega, (Rw.eta (by first | assumption | exact Rw.sub (by first | assumption | exact Rw.sub (by assumption) (by omega) rfl) (by omega) rfl) (by omega) (by omega)).trans ?_⟩; rfl)
  | (show okOrder _ _ = true; kernel_rfl)
  | exact upto_z
  | exact upto_s i2 (pl_yes1 (by assumption) (by omega))
  | exact upto_s i2 (pl_yes2 (by assumption) (by assumption))
  | exact True.intro
  | done
namespace Mb2
structure Fns where
 plOk : Int -> Int -> List (List L) -> Bool
 inR : Int -> Int -> Int -> Bool
def F0 : Fns := ⟨plOk, inR⟩
def ct (F : Fns) : CT := fun f ds => match f with
 | 169 => match ds with
   | [.agg [.v (.int .i64 k), .v (.int .i64 m), .s 1 cs]] => some (fun _ => Rw [tI] cs /\ cs.length <= 1099511627776, [.one (.v (.bool (F.plOk k m cs)))])
   | _ => none
 | 87 => match ds with
   | [.one (.v (.int .i64 x)), .one (.v (.int .i64 a)), .one (.v (.int .i64 b))] => some (fun _ => True, [.one (.v (.bool (F.inR x a b)))])
   | _ => none
 | 149 => match ds with
   | [.agg [.v (.int .i64 k), .v (.int .i64 m), .s 1 cs]] => some (fun _ => Rw [tI] cs /\ cs.length <= 1099511627776, [.one (.v (.bool (F.plOk k m cs)))])
   | _ => none
 | 71 => match ds with
   | [.one (.v (.int .i64 x)), .one (.v (.int .i64 a)), .one (.v (.int .i64 b))] => some (fun _ => True, [.one (.v (.bool (F.inR x a b)))])
   | _ => none
 | _ => none
theorem ct_ok : CTok Tryz.prog (ct F0) := by
 intro f ds pre res h hp
 unfold ct at h
 split at h <;> (try split at h) <;> cases h
 exact c_impl_PlanOk _ _ _ hp
 exact c_impl_between _ _ _ hp
 exact c_spec_PlanOk _ _ _ hp
 exact c_spec_l01In _ _ _ hp
def B : TB Tryz.prog := tb ct_ok
end Mb2
theorem c_impl_JobOk (k m : Int) (cs : List (List L)) (ph nx : Int) (hp : Rw [tI] cs /\ cs.length <= 1099511627776) : Ctr Tryz.prog 88 [.agg [.v (.int .i64 k), .v (.int .i64 m), .s 1 cs, .v (.int .i64 ph), .v (.int .i64 nx)]] [.one (.v (.bool (jbOk k m cs ph nx)))] := by
 refine ctr_b Mb2.B tabOk mixed 20 _ [4] [.tmp 2] Tryz.func88 rfl rfl rfl rfl rfl ?_
 intro O r (F : Mb2.Fns) hO hr (hF : F = Mb2.F0)
 cbv
 repeat' first | refine And.intro ?_ ?_ | (refine cbi (fun hb => ?_) (fun hb => ?_) <;> cbv)
 all_goals (subst hO hr hF; (try simp only [stdO, SS, sa, az] at *); (try simp only [nc] at *); (try simp only [onc] at *))
 all_goals (try simp only [Mb2.F0] at *)
 all_goals first | exact True.intro | exact hp | (show (_ : List DV) = _; refine db_eq ?_; unfold jbOk; simp [*]; done) | done
theorem c_spec_JobOk (k m : Int) (cs : List (List L)) (ph nx : Int) (hp : Rw [tI] cs /\ cs.length <= 1099511627776) : Ctr Tryz.prog 75 [.agg [.v (.int .i64 k), .v (.int .i64 m), .s 1 cs, .v (.int .i64 ph), .v (.int .i64 nx)]] [.one (.v (.bool (jbOk k m cs ph nx)))] := by
 refine ctr_b Mb2.B tabOk mixed 20 _ [4] [.tmp 2] Tryz.func75 rfl rfl rfl rfl rfl ?_
 intro O r (F : Mb2.Fns) hO hr (hF : F = Mb2.F0)
 cbv
 repeat' first | refine And.intro ?_ ?_ | (refine cbi (fun hb => ?_) (fun hb => ?_) <;> cbv)
 all_goals (subst hO hr hF; (try simp only [stdO, SS, sa, az] at *); (try simp only [nc] at *); (try simp only [onc] at *))
 all_goals (try simp only [Mb2.F0] at *)
 all_goals first | exact True.intro | exact hp | (show (_ : List DV) = _; refine db_eq ?_; unfold jbOk; simp [*]; done) | done
namespace Mb3
structure Fns where
 inR : Int -> Int -> Int -> Bool
 clsSz : Int -> Int
 hasB : List (List L) -> Int -> Bool
def F0 : Fns := ⟨inR, clsSz, hasB⟩
def ct (F : Fns) : CT := fun f ds => match f with
 | 162 => match ds with
   | [.one (.v (.int .i64 k))] => some (fun _ => True, [.one (.v (.bool (F.inR k 0 3)))])
   | _ => none
 | 87 => match ds with
   | [.one (.v (.int .i64 x)), .one (.v (.int .i64 a)), .one (.v (.int .i64 b))] => some (fun _ => True, [.one (.v (.bool (F.inR x a b)))])
   | _ => none
 | 163 => match ds with
   | [.one (.v (.int .i64 k))] => some (fun _ => True, [.one (.v (.int .i64 (F.clsSz k)))])
   | _ => none
 | 71 => match ds with
   | [.one (.v (.int .i64 x)), .one (.v (.int .i64 a)), .one (.v (.int .i64 b))] => some (fun _ => True, [.one (.v (.bool (F.inR x a b)))])
   | _ => none
 | 146 => match ds with
   | [.one (.v (.int .i64 k))] => some (fun _ => True, [.one (.v (.int .i64 (F.clsSz k)))])
   | _ => none
 | 27 => match ds with
   | [.one (.s 1 l), .one (.v (.int .i64 x))] => some (fun _ => Rw [tI] l, [.one (.v (.bool (F.hasB l x)))])
   | _ => none
 | _ => none
theorem ct_ok : CTok Tryz.prog (ct F0) := by
 intro f ds pre res h hp
 unfold ct at h
 split at h <;> (try split at h) <;> cases h
 exact c_impl_classOk _ hp
 exact c_impl_between _ _ _ hp
 exact c_impl_ClassSize _ hp
 exact c_spec_l01In _ _ _ hp
 exact c_spec_ClassSize _ hp
 exact c_spec_l08Has _ _ hp
def B : TB Tryz.prog := tb ct_ok
end Mb3
theorem c_spec_CacheOk (ls : List (List L)) (hp : NsL ls) : Ctr Tryz.prog 70 [.agg [.s 1 ls]] [.one (.v (.bool (caOk ls)))] := by
 have hw := hp.w; have hl := hp.l; have hn := hp.n
 refine ctr_b Mb3.B tabOk mixed 60 _ [4] [.tmp 2] Tryz.func70 rfl rfl rfl rfl rfl ?_
 intro O r (F : Mb3.Fns) hO hr (hF : F = Mb3.F0)
 cbv
 repeat' first | refine And.intro ?_ ?_ | (refine cbi (fun hb => ?_) (fun hb => ?_) <;> cbv) | (refine ⟨[1, 3, 4], [1, 3], Int × List (List L), fun s_ => match s_ with | (i, o) => [.reg 4 (.one (.v (.int .i64 i))), .reg 3 (.one (.vw 3 0 0 0 (O.ln o))), .leaf 3 0 ⟨0, 0, none, .own (.s 1 o)⟩], fun s_ => match s_ with | (i, o) => 0 <= i /\ i <= 4 /\ ScP ls i o, fun s_ => match s_ with | (i, o) => (4 - i).toNat, ⟨(0, []), ?_, ?_⟩, ?_⟩; rotate_left; (focus (cbv; done)); intro s_ hi; obtain ⟨i, o⟩ := s_; replace hi : 0 <= i /\ i <= 4 /\ ScP ls i o := hi; obtain ⟨i0, i1, i2⟩ := hi; cbv) | (refine ⟨[1, 3, 4, 5], [1, 3], Int × List (List L), fun s_ => match s_ with | (k, o1) => [.reg 5 (.one (.v (.int .i64 k))), .reg 3 (.one (.vw 3 0 0 0 (O.ln o1))), .leaf 3 0 ⟨0, 0, none, .own (.s 1 o1)⟩], fun s_ => match s_ with | (k, o1) => 0 <= k /\ k <= ((gsI ls i 0).length : Int) /\ SdP ls i k o1, fun s_ => match s_ with | (k, o1) => (gsI ls i 0).length - k.toNat, ⟨(0, o), ?_, ?_⟩, ?_⟩; rotate_left; (focus (cbv; done)); intro s_ hk; obtain ⟨k, o1⟩ := s_; replace hk : 0 <= k /\ k <= ((gsI ls i 0).length : Int) /\ SdP ls i k o1 := hk; obtain ⟨k0, k1, k2⟩ := hk; cbv) | (refine loop_step (O.ar .add .i64 k 1, O.cat o1 (O.sub [[.v (.int .i64 (O.gi (O.gs ls i 0) k 0))]] 0 (O.ln [[.v (.int .i64 (O.gi (O.gs ls i 0) k 0))]]))) ?_ ?_ ?_; rotate_left 2; focus (cbv; done)) | (refine loop_step (O.ar .add .i64 i 1, o1) ?_ ?_ ?_; rotate_left 2; focus (cbv; done))
 all_goals (subst hO hr hF; (try simp only [stdO, SS, sa, az] at *); (try simp only [nc] at *); (try simp only [onc] at *))
 all_goals (try simp only [Mb3.F0] at *)
 all_goals try rw [up64 (by omega) (by omega)]
 all_goals (try have z6 : arI .add .i64 k 1 = k + 1 := add64 (by have := hn i; omega))
 all_goals (try simp only [z6] at *)
 all_goals (try have w1 := sd_len k2 k0)
 all_goals (try have w2 := hp.el i0 (by omega))
 all_goals (try have w3 := w2.1)
 all_goals first
  | (show (_ : List DV) = _
     first
      | (refine db_eq ?_; symm; exact ca_no0 (by assumption))
      | (refine db_eq ?_; symm; exact ca_no1 i0 (by omega) (by omega))
      | (refine db_eq ?_; symm; exact ca_no2 i0 (by omega) k0 (by assumption) (cb_f1 (by assumption)))
      | (refine db_eq ?_; symm; exact ca_no2 i0 (by omega) k0 (by assumption) (cb_f2 (by assumption)))
      | (refine db_eq ?_; symm; exact sd_dup k2 i0 k0 (by assumption) (by assumption))
      | (refine db_eq ?_; symm; exact ca_yes i2.p (by omega) (by omega))
      | done)
  | omega
  | (refine ⟨by omega, by omega, (Rw.eta (by first | assumption | exact Rw.sub (by first | assumption | exact Rw.sub (by assumption) (by omega) rfl) (by omega) rfl) (by omega) (by omega)).trans ?_⟩; rfl)
  | (show okOrder _ _ = true; kernel_rfl)
  | exact w1.2
  | exact scal_one
  | (constructor <;> (simp only [List.length_cons, List.length_nil]; omega))
  | (have c := (cls_b (inR_t.2 (by omega : 0 <= i /\ i <= 3))).1; omega)
  | exact sd_up k2 k0 (by assumption) (by assumption) (by assumption)
  | exact sc_up k2 i0 k1 (by omega)
  | exact sd_0 i2 i0 (by omega) (by omega)
  | exact sc_0
  | exact Int.natCast_nonneg _
  | exact ⟨True.intro, True.intro⟩
  | exact True.intro
  | done
theorem c_impl_CacheOk (ls : List (List L)) (hp : NsL ls) : Ctr Tryz.prog 83 [.agg [.s 1 ls]] [.one (.v (.bool (caOk ls)))] := by
 have hw := hp.w; have hl := hp.l; have hn := hp.n
 refine ctr_b Mb3.B tabOk mixed 54 _ [4] [.tmp 2] Tryz.func83 rfl rfl rfl rfl rfl ?_
 intro O r (F : Mb3.Fns) hO hr (hF : F = Mb3.F0)
 cbv
 repeat' first | refine And.intro ?_ ?_ | (refine cbi (fun hb => ?_) (fun hb => ?_) <;> cbv) | (refine ⟨[1, 3, 10, 11, 12], [1, 8], Int × List (List L), fun s_ => match s_ with | (i, es) => [.reg 12 (.one (.v (.int .i64 i))), .leaf 8 0 ⟨0, 0, none, .own (.m true es)⟩], fun s_ => match s_ with | (i, es) => 0 <= i /\ i <= (ls.length : Int) /\ IcaP ls i es, fun s_ => match s_ with | (i, es) => ls.length - i.toNat, ⟨(0, []), ?_, ?_⟩, ?_⟩; rotate_left; (focus (cbv; done)); intro s_ hi; obtain ⟨i, es⟩ := s_; replace hi : 0 <= i /\ i <= (ls.length : Int) /\ IcaP ls i es := hi; obtain ⟨i0, i1, i2⟩ := hi; cbv) | (refine ⟨[1, 3, 4, 10, 11, 12, 25, 26, 27], [1, 8], Int × List (List L), fun s_ => match s_ with | (k, es1) => [.reg 27 (.one (.v (.int .i64 k))), .leaf 8 0 ⟨0, 0, none, .own (.m true es1)⟩], fun s_ => match s_ with | (k, es1) => 0 <= k /\ k <= ((gsI ls i 0).length : Int) /\ IcbP ls i k es1, fun s_ => match s_ with | (k, es1) => (gsI ls i 0).length - k.toNat, ⟨(0, es), ?_, ?_⟩, ?_⟩; rotate_left; (focus (cbv; done)); intro s_ hk; obtain ⟨k, es1⟩ := s_; replace hk : 0 <= k /\ k <= ((gsI ls i 0).length : Int) /\ IcbP ls i k es1 := hk; obtain ⟨k0, k1, k2⟩ := hk; cbv) | (refine loop_step (O.ar .add .i64 k 1, O.mu es1 (O.gi (O.gs ls i 0) k 0) (.v (.bool true))) ?_ ?_ ?_; rotate_left 2; focus (cbv; done)) | (refine loop_step (O.ar .add .i64 i 1, es1) ?_ ?_ ?_; rotate_left 2; focus (cbv; done))
 all_goals (subst hO hr hF; (try simp only [stdO, SS, sa, az] at *); (try simp only [nc] at *); (try simp only [onc] at *))
 all_goals (try simp only [Mb3.F0] at *)
 all_goals try rw [up64 (by omega) (by omega)]
 all_goals (try have z6 : arI .add .i64 k 1 = k + 1 := add64 (by have := hn i; omega))
 all_goals (try simp only [z6] at *)
 all_goals (try have w2 := hp.el i0 (by omega))
 all_goals (try have w3 := w2.1)
 all_goals (try have w4 := k2.p.l)
 all_goals first
  | (show (_ : List DV) = _
     first
      | (refine db_eq ?_; exact ca_end i2.p i1 (by omega))
      | (refine db_eq ?_; symm; exact ica_no1 i2 i0 (by omega) (by assumption))
      | (refine db_eq ?_; symm; exact ica_no2 i2 i0 (by assumption) (by assumption))
      | (refine db_eq ?_; symm; exact ca_no2 i0 (by omega) k0 (by assumption) (cb_f1 (by assumption)))
      | (refine db_eq ?_; symm; exact ca_no2 i0 (by omega) k0 (by assumption) (cb_f2 (by assumption)))
      | (refine db_eq ?_; symm; exact icb_dup k2 i0 k0 (by assumption) (by assumption))
      | done)
  | omega
  | (refine ⟨by omega, by omega, (Rw.eta (by first | assumption | exact Rw.sub (by first | assumption | exact Rw.sub (by assumption) (by omega) rfl) (by omega) rfl) (by omega) (by omega)).trans ?_⟩; rfl)
  | (show okOrder _ _ = true; kernel_rfl)
  | (have c := (cls_b (inR_t.2 (by omega : 0 <= i /\ i <= 3))).1; omega)
  | exact icb_up k2 k0 (by assumption) (by assumption) (by assumption)
  | exact ica_up k2 i0 k1 (by omega)
  | exact icb_0 i2 i0 (by assumption) (by omega)
  | exact ica_0
  | exact Int.natCast_nonneg _
  | exact ⟨True.intro, True.intro⟩
  | exact True.intro
  | done
end Go.V