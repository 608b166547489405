/-
  Contracts, by evaluation.
-/import Derived.Test.YticfhgfgobafbaaGreatS9
import Derived.Test.YticfhgfgobafbaaGreatHA
set_option linter.all false
namespace Go.V
open Go Go.Proofs
set_option maxRecDepth 1000000
set_option maxHeartbeats 8000000
namespace R0
structure Fns where
 no : Unit
def F0 : Fns := ⟨()⟩
def B : TB Tryz.prog := {Φ := Fns, F0 := F0}
end R0
theorem c_impl_between (x a b : Int) (hp : True) : Ctr Tryz.prog 87 [.one (.v (.int .i64 x)), .one (.v (.int .i64 a)), .one (.v (.int .i64 b))] [.one (.v (.bool (inR x a b)))] := by
 refine ctr_b R0.B tabOk mixed 15 _ [4] [.tmp 6] Tryz.func87 rfl rfl rfl rfl rfl ?_
 intro O r (F : R0.Fns) hO hr (hF : F = R0.F0)
 cbv
 repeat' first | refine And.intro ?_ ?_ | (refine cbi (fun hb => ?_) (fun hb => ?_) <;> cbv)
 all_goals (subst hO hr hF; (try simp only [stdO, SS, sa, az] at *); (try simp only [nc] at *); (try simp only [onc] at *))
 all_goals refine db_eq ?_
 ·exact b_iff (by rw [inR_t]; simp only [SS]; omega)
 ·exact (inR_f.2 (by omega)).symm
theorem c_spec_l01In (x a b : Int) (hp : True) : Ctr Tryz.prog 71 [.one (.v (.int .i64 x)), .one (.v (.int .i64 a)), .one (.v (.int .i64 b))] [.one (.v (.bool (inR x a b)))] := by
 refine ctr_b R0.B tabOk mixed 15 _ [4] [.tmp 6] Tryz.func71 rfl rfl rfl rfl rfl ?_
 intro O r (F : R0.Fns) hO hr (hF : F = R0.F0)
 cbv
 repeat' first | refine And.intro ?_ ?_ | (refine cbi (fun hb => ?_) (fun hb => ?_) <;> cbv)
 all_goals (subst hO hr hF; (try simp only [stdO, SS, sa, az] at *); (try simp only [nc] at *); (try simp only [onc] at *))
 all_goals refine db_eq ?_
 ·exact b_iff (by rw [inR_t]; simp only [SS]; omega)
 ·exact (inR_f.2 (by omega)).symm
namespace F4
structure Fns where
 inR : Int -> Int -> Int -> Bool
def F0 : Fns := ⟨inR⟩
def ct (F : Fns) : CT := fun f ds => match f with
 | 87 => match ds with
   | [.one (.v (.int .i64 x)), .one (.v (.int .i64 a)), .one (.v (.int .i64 b))] => some (fun _ => True, [.one (.v (.bool (F.inR x a b)))])
   | _ => none
 | 71 => match ds with
   | [.one (.v (.int .i64 x)), .one (.v (.int .i64 a)), .one (.v (.int .i64 b))] => some (fun _ => True, [.one (.v (.bool (F.inR x a b)))])
   | _ => none
 | _ => none
theorem ct_ok : CTok Tryz.prog (ct F0) := by
 intro f ds pre res h hp
 unfold ct at h
 split at h <;> (try split at h) <;> cases h
 exact c_impl_between _ _ _ hp
 exact c_spec_l01In _ _ _ hp
def B : TB Tryz.prog := tb ct_ok
end F4
theorem c_impl_classOk (k : Int) (hp : True) : Ctr Tryz.prog 162 [.one (.v (.int .i64 k))] [.one (.v (.bool (inR k 0 3)))] := by
 refine ctr_b F4.B tabOk mixed 5 _ [4] [.tmp 2] Tryz.func162 rfl rfl rfl rfl rfl ?_
 intro O r (F : F4.Fns) hO hr (hF : F = F4.F0)
 cbv
 repeat' first | refine And.intro ?_ ?_ | (refine cbi (fun hb => ?_) (fun hb => ?_) <;> cbv)
 all_goals (subst hO hr hF; (try simp only [stdO, SS, sa, az] at *); (try simp only [nc] at *); (try simp only [onc] at *))
 all_goals first | trivial | exact rfl | trace_state
namespace F5
structure Fns where
 inR : Int -> Int -> Int -> Bool
def F0 : Fns := ⟨inR⟩
def ct (F : Fns) : CT := fun f ds => match f with
 | 162 => match ds with
   | [.one (.v (.int .i64 k))] => some (fun _ => True, [.one (.v (.bool (F.inR k 0 3)))])
   | _ => none
 | 71 => match ds with
   | [.one (.v (.int .i64 x)), .one (.v (.int .i64 a)), .one (.v (.int .i64 b))] => some (fun _ => True, [.one (.v (.bool (F.inR x a b)))])
   | _ => none
 | _ => none
theorem ct_ok : CTok Tryz.prog (ct F0) := by
 intro f ds pre res h hp
 unfold ct at h
 split at h <;> (try split at h) <;> cases h
 exact c_impl_classOk _ hp
 exact c_spec_l01In _ _ _ hp
def B : TB Tryz.prog := tb ct_ok
end F5
theorem c_impl_ClassSize (k : Int) (hp : True) : Ctr Tryz.prog 163 [.one (.v (.int .i64 k))] [.one (.v (.int .i64 (clsSz k)))] := by
 refine ctr_b F5.B tabOk mixed 8 _ [3] [.tmp 2] Tryz.func163 rfl rfl rfl rfl rfl ?_
 intro O r (F : F5.Fns) hO hr (hF : F = F5.F0)
 cbv
 repeat' first | refine And.intro ?_ ?_ | (refine cbi (fun hb => ?_) (fun hb => ?_) <;> cbv)
 all_goals (subst hO hr hF; (try simp only [stdO, SS, sa, az] at *); (try simp only [nc] at *); (try simp only [onc] at *))
 all_goals (try simp only [F5.F0] at *)
 all_goals first | trivial | exact di_eq (cs_no (by assumption)).symm | (refine di_eq ?_; rw [cs_sh (by assumption)]) | (rw [inR_t] at *; omega) | trace_state
theorem c_spec_ClassSize (k : Int) (hp : True) : Ctr Tryz.prog 146 [.one (.v (.int .i64 k))] [.one (.v (.int .i64 (clsSz k)))] := by
 refine ctr_b F5.B tabOk mixed 9 _ [3] [.tmp 2] Tryz.func146 rfl rfl rfl rfl rfl ?_
 intro O r (F : F5.Fns) hO hr (hF : F = F5.F0)
 cbv
 repeat' first | refine And.intro ?_ ?_ | (refine cbi (fun hb => ?_) (fun hb => ?_) <;> cbv)
 all_goals (subst hO hr hF; (try simp only [stdO, SS, sa, az] at *); (try simp only [nc] at *); (try simp only [onc] at *))
 all_goals (try simp only [F5.F0] at *)
 all_goals (try rw [cs_wr (by assumption)] at *)
 all_goals first | trivial | exact di_eq (cs_no (by assumption)).symm | (refine di_eq ?_; rw [cs_sh (by assumption)]) | (rw [inR_t] at *; omega) | trace_state
namespace F6
structure Fns where
 inR : Int -> Int -> Int -> Bool
 clsSz : Int -> Int
def F0 : Fns := ⟨inR, clsSz⟩
def ct (F : Fns) : CT := fun f ds => match f with
 | 87 => match ds with
   | [.one (.v (.int .i64 x)), .one (.v (.int .i64 a)), .one (.v (.int .i64 b))] => some (fun _ => True, [.one (.v (.bool (F.inR x a b)))])
   | _ => none
 | 71 => match ds with
   | [.one (.v (.int .i64 x)), .one (.v (.int .i64 a)), .one (.v (.int .i64 b))] => some (fun _ => True, [.one (.v (.bool (F.inR x a b)))])
   | _ => none
 | 163 => match ds with
   | [.one (.v (.int .i64 k))] => some (fun _ => True, [.one (.v (.int .i64 (F.clsSz k)))])
   | _ => none
 | _ => none
theorem ct_ok : CTok Tryz.prog (ct F0) := by
 intro f ds pre res h hp
 unfold ct at h
 split at h <;> (try split at h) <;> cases h
 exact c_impl_between _ _ _ hp
 exact c_spec_l01In _ _ _ hp
 exact c_impl_ClassSize _ hp
def B : TB Tryz.prog := tb ct_ok
end F6
theorem c_impl_ClassOf (s : Int) (hp : True) : Ctr Tryz.prog 167 [.one (.v (.int .i64 s))] [.one (.v (.int .i64 (clsOf s)))] := by
 refine ctr_b F6.B tabOk mixed 14 _ [3] [.tmp 2] Tryz.func167 rfl rfl rfl rfl rfl ?_
 intro O r (F : F6.Fns) hO hr (hF : F = F6.F0)
 cbv
 repeat' first | refine And.intro ?_ ?_ | (refine cbi (fun hb => ?_) (fun hb => ?_) <;> cbv) | (refine ⟨[0, 3], [], Int, fun k => [.reg 3 (.one (.v (.int .i64 k)))], fun k => 0 <= k /\ k <= 3 /\ (k = 0 \/ clsSz (k - 1) < s), fun k => (3 - k).toNat, ⟨0, ?_, ?_⟩, ?_⟩; rotate_left; (focus (cbv; done)); intro k hk; replace hk : 0 <= k /\ k <= 3 /\ (k = 0 \/ clsSz (k - 1) < s) := hk; obtain ⟨k0, k1, k2⟩ := hk; cbv) | (refine loop_step (O.ar .add .i64 k 1) ?_ ?_ ?_; rotate_left 2; focus (cbv; done))
 all_goals (subst hO hr hF; (try simp only [stdO, SS, sa, az] at *); (try simp only [nc] at *); (try simp only [onc] at *))
 all_goals (try simp only [F6.F0] at *)
 all_goals (try simp only [inR_t, inR_f] at *)
 all_goals (try rw [up64 (by omega) (by omega)])
 all_goals first | trivial | omega | exact cs_up (by omega) (by assumption) (by omega) | (have := cs_up (k := k) (s := s) (by omega) (by assumption) (by omega); omega) | exact di_eq (cl_no (by omega)).symm | exact di_eq (cl_yes (by omega) (by assumption) (by omega) (by assumption)).symm | exact .inl trivial | exact .inl rfl | (rw [show k + 1 - 1 = k by omega]; exact .inr (by assumption)) | trace_state
theorem c_spec_ClassOf (s : Int) (hp : True) : Ctr Tryz.prog 147 [.one (.v (.int .i64 s))] [.one (.v (.int .i64 (clsOf s)))] := by
 refine ctr_b F6.B tabOk mixed 15 _ [3] [.tmp 2] Tryz.func147 rfl rfl rfl rfl rfl ?_
 intro O r (F : F6.Fns) hO hr (hF : F = F6.F0)
 cbv
 repeat' first | refine And.intro ?_ ?_ | (refine cbi (fun hb => ?_) (fun hb => ?_) <;> cbv) | (refine ⟨[0, 3], [], Int, fun k => [.reg 3 (.one (.v (.int .i64 k)))], fun k => 0 <= k /\ k <= 3 /\ (k = 0 \/ clsSz (k - 1) < s), fun k => (3 - k).toNat, ⟨0, ?_, ?_⟩, ?_⟩; rotate_left; (focus (cbv; done)); intro k hk; replace hk : 0 <= k /\ k <= 3 /\ (k = 0 \/ clsSz (k - 1) < s) := hk; obtain ⟨k0, k1, k2⟩ := hk; cbv) | (refine loop_step (O.ar .add .i64 k 1) ?_ ?_ ?_; rotate_left 2; focus (cbv; done))
 all_goals (subst hO hr hF; (try simp only [stdO, SS, sa, az] at *); (try simp only [nc] at *); (try simp only [onc] at *))
 all_goals (try simp only [F6.F0] at *)
 all_goals (try rw [cs_wr (k := k) (by rw [inR_t]; omega)] at *)
 all_goals (try rw [cs_sh (k := k) (by rw [inR_t]; omega)] at *)
 all_goals (try simp only [inR_t, inR_f] at *)
 all_goals (try rw [up64 (by omega) (by omega)])
 all_goals first | trivial | omega | exact cs_up (by omega) (by assumption) (by omega) | (have := cs_up (k := k) (s := s) (by omega) (by assumption) (by omega); omega) | exact di_eq (cl_no (by omega)).symm | exact di_eq (cl_yes (by omega) (by assumption) (by omega) (by assumption)).symm | exact .inl trivial | exact .inl rfl | (rw [show k + 1 - 1 = k by omega]; exact .inr (by assumption)) | trace_state
theorem c_impl_ObjAt_1 (d0 d1 d2 d3 ad : Int) (hp : True) : Ctr Tryz.prog 118 [.agg [.v (.int .i64 d0), .v (.int .i64 d1), .v (.int .i64 d2), .v (.int .i64 d3)], .ptr [.v (.int .i64 ad)]] [.one (.v (.bool (eqB d1 ad)))] := by
 refine ctr_b R0.B tabOk mixed 8 _ [4] [.tmp 3] Tryz.func118 rfl rfl rfl rfl rfl ?_
 intro O r (F : R0.Fns) hO hr (hF : F = R0.F0)
 cbv
 repeat' first | refine And.intro ?_ ?_ | (refine cbi (fun hb => ?_) (fun hb => ?_) <;> cbv)
 all_goals (subst hO hr hF; (try simp only [stdO, SS, sa, az] at *); (try simp only [nc] at *); (try simp only [onc] at *))
 all_goals first
  | (show (_ : List DV) = _
     first
      | exact db_eq (eqB_t (by assumption)).symm
      | exact db_eq (eqB_f (by assumption)).symm
      | exact db_eq (b_iff (by unfold eqB; simp only [SS, decide_eq_true_eq]))
      | done)
  | trivial
  | trace_state
theorem c_impl_SpanOn_1 (d0 d1 d2 pg : Int) (hp : True) : Ctr Tryz.prog 171 [.agg [.v (.int .i64 d0), .v (.int .i64 d1), .v (.int .i64 d2)], .ptr [.v (.int .i64 pg)]] [.one (.v (.bool (eqB d0 pg)))] := by
 refine ctr_b R0.B tabOk mixed 8 _ [4] [.tmp 3] Tryz.func171 rfl rfl rfl rfl rfl ?_
 intro O r (F : R0.Fns) hO hr (hF : F = R0.F0)
 cbv
 repeat' first | refine And.intro ?_ ?_ | (refine cbi (fun hb => ?_) (fun hb => ?_) <;> cbv)
 all_goals (subst hO hr hF; (try simp only [stdO, SS, sa, az] at *); (try simp only [nc] at *); (try simp only [onc] at *))
 all_goals first
  | (show (_ : List DV) = _
     first
      | exact db_eq (eqB_t (by assumption)).symm
      | exact db_eq (eqB_f (by assumption)).symm
      | exact db_eq (b_iff (by unfold eqB; simp only [SS, decide_eq_true_eq]))
      | done)
  | trivial
  | trace_state
namespace W3
structure Fns where
 eqB : Int -> Int -> Bool
def F0 : Fns := ⟨eqB⟩
def ct (F : Fns) : CT := fun f ds => match f with
 | 118 => match ds with
   | [.agg [.v (.int .i64 d0), .v (.int .i64 d1), .v (.int .i64 d2), .v (.int .i64 d3)], .ptr [.v (.int .i64 ad)]] => some (fun _ => True, [.one (.v (.bool (F.eqB d1 ad)))])
   | _ => none
 | 171 => match ds with
   | [.agg [.v (.int .i64 d0), .v (.int .i64 d1), .v (.int .i64 d2)], .ptr [.v (.int .i64 pg)]] => some (fun _ => True, [.one (.v (.bool (F.eqB d0 pg)))])
   | _ => none
 | _ => none
theorem ct_ok : CTok Tryz.prog (ct F0) := by
 intro f ds pre res h hp
 unfold ct at h
 split at h <;> (try split at h) <;> cases h
 exact c_impl_ObjAt_1 _ _ _ _ _ hp
 exact c_impl_SpanOn_1 _ _ _ _ hp
def B : TB Tryz.prog := tb ct_ok
end W3
theorem c_slices_IndexFunc_loop_example_g00978_impl_Obj_loop_example_g00978_impl_Obj (os : List (List L)) (id : Int) (hp : Rw [tI, tI, tI, tI] os /\ os.length <= 1099511627776) : Ctr Tryz.prog 117 [.one (.s 4 os), .fn 118 [[.v (.int .i64 id)]]] [.one (.v (.int .i64 (obI os id)))] := by
 obtain ⟨hw, hn⟩ := hp
 refine ctr_b W3.B tabOk mixed 19 _ [3] [.tmp 4] Tryz.func117 rfl rfl rfl rfl rfl ?_
 intro O r (F : W3.Fns) hO hr (hF : F = W3.F0)
 cbv
 repeat' first | refine And.intro ?_ ?_ | (refine cbi (fun hb => ?_) (fun hb => ?_) <;> cbv) | (refine ⟨[0, 1, 7, 8], [0], Int, fun i => [.reg 8 (.one (.v (.int .i64 i)))], fun i => 0 <= i /\ i <= ((os.length : Nat) : Int) /\ upto (notB (isOb os id)) i, fun i => (os.length) - i.toNat, ⟨0, ?_, ?_⟩, ?_⟩; rotate_left; (focus (cbv; done)); intro i hi; replace hi : 0 <= i /\ i <= ((os.length : Nat) : Int) /\ upto (notB (isOb os id)) i := hi; obtain ⟨i0, i1, i2⟩ := hi; cbv) | (refine loop_step (O.ar .add .i64 i 1) ?_ ?_ ?_; rotate_left 2; focus (cbv; done))
 all_goals (subst hO hr hF; (try simp only [stdO, SS, sa, az] at *); (try simp only [nc] at *); (try simp only [onc] at *))
 all_goals (try simp only [W3.F0] at *)
 all_goals try rw [up64 (by omega) (by omega)]
 all_goals first
  | (show (_ : List DV) = _
     first
      | exact di_eq (first_at i2 i0 (by assumption) (show isOb os id i = true from by assumption)).symm
      | exact di_eq (first_at i2 i0 (by assumption) (show isOb os id i = true from eqB_t (by assumption))).symm
      | exact di_eq (first_no i2 (by assumption)).symm
      | done)
  | omega
  | (refine ⟨by omega, by omega, (Rw.eta (by first | assumption | exact Rw.sub (by first | assumption | exact Rw.sub (by assumption) (by omega) rfl) (by omega) rfl) (by omega) (by omega)).trans ?_⟩; rfl)
  | (show (lk _ _).isSome = true; kernel_rfl)
  | exact upto_z
  | exact upto_s i2 (notB_f (show isOb os id i = false from by assumption))
  | exact upto_s i2 (notB_f (show isOb os id i = false from eqB_f (by assumption)))
  | exact ⟨trivial, trivial⟩
  | trivial
  | trace_state
theorem c_slices_IndexFunc_loop_example_g00978_impl_Span_loop_example_g00978_impl_Span (os : List (List L)) (id : Int) (hp : Rw [tI, tI, tI] os /\ os.length <= 1099511627776) : Ctr Tryz.prog 170 [.one (.s 3 os), .fn 171 [[.v (.int .i64 id)]]] [.one (.v (.int .i64 (spI os id)))] := by
 obtain ⟨hw, hn⟩ := hp
 refine ctr_b W3.B tabOk mixed 19 _ [3] [.tmp 4] Tryz.func170 rfl rfl rfl rfl rfl ?_
 intro O r (F : W3.Fns) hO hr (hF : F = W3.F0)
 cbv
 repeat' first | refine And.intro ?_ ?_ | (refine cbi (fun hb => ?_) (fun hb => ?_) <;> cbv) | (refine ⟨[0, 1, 7, 8], [0], Int, fun i => [.reg 8 (.one (.v (.int .i64 i)))], fun i => 0 <= i /\ i <= ((os.length : Nat) : Int) /\ upto (notB (isSp os id)) i, fun i => (os.length) - i.toNat, ⟨0, ?_, ?_⟩, ?_⟩; rotate_left; (focus (cbv; done)); intro i hi; replace hi : 0 <= i /\ i <= ((os.length : Nat) : Int) /\ upto (notB (isSp os id)) i := hi; obtain ⟨i0, i1, i2⟩ := hi; cbv) | (refine loop_step (O.ar .add .i64 i 1) ?_ ?_ ?_; rotate_left 2; focus (cbv; done))
 all_goals (subst hO hr hF; (try simp only [stdO, SS, sa, az] at *); (try simp only [nc] at *); (try simp only [onc] at *))
 all_goals (try simp only [W3.F0] at *)
 all_goals try rw [up64 (by omega) (by omega)]
 all_goals first
  | (show (_ : List DV) = _
     first
      | exact di_eq (first_at i2 i0 (by assumption) (show isSp os id i = true from by assumption)).symm
      | exact di_eq (first_at i2 i0 (by assumption) (show isSp os id i = true from eqB_t (by assumption))).symm
      | exact di_eq (first_no i2 (by assumption)).symm
      | done)
  | omega
  | (refine ⟨by omega, by omega, (Rw.eta (by first | assumption | exact Rw.sub (by first | assumption | exact Rw.sub (by assumption) (by omega) rfl) (by omega) rfl) (by omega) (by omega)).trans ?_⟩; rfl)
  | (show (lk _ _).isSome = true; kernel_rfl)
  | exact upto_z
  | exact upto_s i2 (notB_f (show isSp os id i = false from by assumption))
  | exact upto_s i2 (notB_f (show isSp os id i = false from eqB_f (by assumption)))
  | exact ⟨trivial, trivial⟩
  | trivial
  | trace_state
namespace W4
structure Fns where
 obI : List (List L) -> Int -> Int
 spI : List (List L) -> Int -> Int
def F0 : Fns := ⟨obI, spI⟩
def ct (F : Fns) : CT := fun f ds => match f with
 | 117 => match ds with
   | [.one (.s 4 os), .fn 118 [[.v (.int .i64 id)]]] => some (fun _ => Rw [tI, tI, tI, tI] os /\ os.length <= 1099511627776, [.one (.v (.int .i64 (F.obI os id)))])
   | _ => none
 | 170 => match ds with
   | [.one (.s 3 os), .fn 171 [[.v (.int .i64 id)]]] => some (fun _ => Rw [tI, tI, tI] os /\ os.length <= 1099511627776, [.one (.v (.int .i64 (F.spI os id)))])
   | _ => none
 | _ => none
theorem ct_ok : CTok Tryz.prog (ct F0) := by
 intro f ds pre res h hp
 unfold ct at h
 split at h <;> (try split at h) <;> cases h
 exact c_slices_IndexFunc_loop_example_g00978_impl_Obj_loop_example_g00978_impl_Obj _ _ hp
 exact c_slices_IndexFunc_loop_example_g00978_impl_Span_loop_example_g00978_impl_Span _ _ hp
def B : TB Tryz.prog := tb ct_ok
end W4
theorem c_impl_SpanOn (a0 a1 a2 : List (List L)) (a3 : Int) (a4 a5 a6 a7 a8 a9 a10 a11 : List (List L)) (a12 : Int) (a13 : List (List L)) (a14 a15 a16 a17 : Int) (a18 : Bool) (a19 a20 : Int) (a21 : List (List L)) (a22 a23 pg : Int) (hp : Rw [tI, tI, tI] a6 /\ a6.length <= 1099511627776) : Ctr Tryz.prog 89 [.agg [.s 1 a0, .s 1 a1, .s 2 a2, .v (.int .i64 a3), .s 1 a4, .s 2 a5, .s 3 a6, .s 3 a7, .s 4 a8, .s 1 a9, .s 1 a10, .s 1 a11, .v (.int .i64 a12), .s 3 a13, .v (.int .i64 a14), .v (.int .i64 a15), .v (.int .i64 a16), .v (.int .i64 a17), .v (.bool a18), .v (.int .i64 a19), .v (.int .i64 a20), .s 1 a21, .v (.int .i64 a22), .v (.int .i64 a23)], .one (.v (.int .i64 pg))] [.one (.v (.int .i64 (spI a6 pg)))] := by
 refine ctr_b W4.B tabOk mixed 9 _ [3] [.tmp 4] Tryz.func89 rfl rfl rfl rfl rfl ?_
 intro O r (F : W4.Fns) hO hr (hF : F = W4.F0)
 cbv
 repeat' first | refine And.intro ?_ ?_ | (refine cbi (fun hb => ?_) (fun hb => ?_) <;> cbv)
 all_goals (subst hO hr hF; (try simp only [stdO, SS, sa, az] at *); (try simp only [nc] at *); (try simp only [onc] at *))
 all_goals first | exact hp | exact rfl | trivial | trace_state
theorem c_spec_SpanOn (a0 a1 a2 : List (List L)) (a3 : Int) (a4 a5 a6 a7 a8 a9 a10 a11 : List (List L)) (a12 : Int) (a13 : List (List L)) (a14 a15 a16 a17 : Int) (a18 : Bool) (a19 a20 : Int) (a21 : List (List L)) (a22 a23 pg : Int) (hp : Rw [tI, tI, tI] a6 /\ a6.length <= 1099511627776) : Ctr Tryz.prog 76 [.agg [.s 1 a0, .s 1 a1, .s 2 a2, .v (.int .i64 a3), .s 1 a4, .s 2 a5, .s 3 a6, .s 3 a7, .s 4 a8, .s 1 a9, .s 1 a10, .s 1 a11, .v (.int .i64 a12), .s 3 a13, .v (.int .i64 a14), .v (.int .i64 a15), .v (.int .i64 a16), .v (.int .i64 a17), .v (.bool a18), .v (.int .i64 a19), .v (.int .i64 a20), .s 1 a21, .v (.int .i64 a22), .v (.int .i64 a23)], .one (.v (.int .i64 pg))] [.one (.v (.int .i64 (spI a6 pg)))] := by
 obtain ⟨hw, hn⟩ := hp
 refine ctr_b R0.B tabOk mixed 22 _ [3] [.tmp 4] Tryz.func76 rfl rfl rfl rfl rfl ?_
 intro O r (F : R0.Fns) hO hr (hF : F = R0.F0)
 cbv
 repeat' first | refine And.intro ?_ ?_ | (refine cbi (fun hb => ?_) (fun hb => ?_) <;> cbv) | (refine ⟨[1, 2, 5], [2], Int, fun i => [.reg 5 (.one (.v (.int .i64 i)))], fun i => 0 <= i /\ i <= ((a6.length : Nat) : Int) /\ upto (notB (isSp a6 pg)) i, fun i => (a6.length) - i.toNat, ⟨0, ?_, ?_⟩, ?_⟩; rotate_left; (focus (cbv; done)); intro i hi; replace hi : 0 <= i /\ i <= ((a6.length : Nat) : Int) /\ upto (notB (isSp a6 pg)) i := hi; obtain ⟨i0, i1, i2⟩ := hi; cbv) | (refine loop_step (O.ar .add .i64 i 1) ?_ ?_ ?_; rotate_left 2; focus (cbv; done))
 all_goals (subst hO hr hF; (try simp only [stdO, SS, sa, az] at *); (try simp only [nc] at *); (try simp only [onc] at *))
 all_goals (try simp only [R0.F0] at *)
 all_goals try rw [up64 (by omega) (by omega)]
 all_goals first
  | (show (_ : List DV) = _
     first
      | exact di_eq (first_at i2 i0 (by assumption) (show isSp a6 pg i = true from by assumption)).symm
      | exact di_eq (first_at i2 i0 (by assumption) (show isSp a6 pg i = true from eqB_t (by assumption))).symm
      | exact di_eq (first_no i2 (by assumption)).symm
      | done)
  | omega
  | (refine ⟨by omega, by omega, (Rw.eta (by first | assumption | exact Rw.sub (by first | assumption | exact Rw.sub (by assumption) (by omega) rfl) (by omega) rfl) (by omega) (by omega)).trans ?_⟩; rfl)
  | (show (lk _ _).isSome = true; kernel_rfl)
  | exact upto_z
  | exact upto_s i2 (notB_f (show isSp a6 pg i = false from by assumption))
  | exact upto_s i2 (notB_f (show isSp a6 pg i = false from eqB_f (by assumption)))
  | exact ⟨trivial, trivial⟩
  | trivial
  | trace_state
end Go.V