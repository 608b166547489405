/-
  Contracts, by evaluation.
-/import Derived.Test.YticfhgfgobafbaaGreatS9
import Derived.Test.YticfhgfgobafbaaGreatHB
import Derived.Test.YticfhgfgobafbaaGreatLayMm
set_option linter.all false
namespace Go.V
open Go Go.Proofs
set_option maxRecDepth 1000000
set_option maxHeartbeats 8000000
namespace Na0
structure Fns where
 no : Unit
def F0 : Fns := ⟨()⟩
def B : TB Tryz.prog := {Φ := Fns, F0 := F0}
end Na0
theorem c_impl_objsOk_1 (d0 d1 d2 d3 e0 e1 e2 e3 : Int) (hp : True) : Ctr Tryz.prog 165 [.agg [.v (.int .i64 d0), .v (.int .i64 d1), .v (.int .i64 d2), .v (.int .i64 d3)], .ptr [.v (.int .i64 e0), .v (.int .i64 e1), .v (.int .i64 e2), .v (.int .i64 e3)]] [.one (.v (.bool (eqB d0 e0)))] := by
 refine ctr_b Na0.B tabOk mixed 9 _ [4] [.tmp 3] Tryz.func165 rfl rfl rfl rfl rfl ?_
 intro O r (F : Na0.Fns) hO hr (hF : F = Na0.F0)
 cbv
 repeat' first | refine And.intro ?_ ?_ | (refine cbi (fun hb => ?_) (fun hb => ?_) <;> cbv)
 all_goals (subst hO hr hF; (try simp only [stdO, SS, sa, az] at *); (try simp only [nc] at *); (try simp only [onc] at *))
 all_goals first
  | (show (_ : List DV) = _
     first
      | exact db_eq (b_iff (by unfold eqB; simp only [SS, decide_eq_true_eq]))
      | done)
  | trivial
  | done
namespace Na1
structure Fns where
 eqB : Int -> Int -> Bool
def F0 : Fns := ⟨eqB⟩
def ct (F : Fns) : CT := fun f ds => match f with
 | 165 => match ds with
   | [.agg [.v (.int .i64 d0), .v (.int .i64 d1), .v (.int .i64 d2), .v (.int .i64 d3)], .ptr [.v (.int .i64 e0), .v (.int .i64 e1), .v (.int .i64 e2), .v (.int .i64 e3)]] => some (fun _ => True, [.one (.v (.bool (F.eqB d0 e0)))])
   | _ => none
 | _ => none
theorem ct_ok : CTok Tryz.prog (ct F0) := by
 intro f ds pre res h hp
 unfold ct at h
 split at h <;> (try split at h) <;> cases h
 exact c_impl_objsOk_1 _ _ _ _ _ _ _ _ hp
def B : TB Tryz.prog := tb ct_ok
end Na1
theorem c_slices_IndexFunc_loop_example_g00978_impl_Obj_loop_example_g00978_impl_Obj_2 (os : List (List L)) (e0 e1 e2 e3 : Int) (hp : Rw [tI, tI, tI, tI] os /\ os.length <= 1099511627776) : Ctr Tryz.prog 117 [.one (.s 4 os), .fn 165 [[.v (.int .i64 e0), .v (.int .i64 e1), .v (.int .i64 e2), .v (.int .i64 e3)]]] [.one (.v (.int .i64 (oiI os e0)))] := by
 obtain ⟨hw, hn⟩ := hp
 refine ctr_b Na1.B tabOk mixed 19 _ [3] [.tmp 4] Tryz.func117 rfl rfl rfl rfl rfl ?_
 intro O r (F : Na1.Fns) hO hr (hF : F = Na1.F0)
 cbv
 repeat' first | refine And.intro ?_ ?_ | (refine cbi (fun hb => ?_) (fun hb => ?_) <;> cbv) | (refine ⟨[0, 1, 7, 8], [0], Int, fun i => [.reg 8 (.one (.v (.int .i64 i)))], fun i => 0 <= i /\ i <= ((os.length : Nat) : Int) /\ upto (notB (isOi os e0)) i, fun i => (os.length) - i.toNat, ⟨0, ?_, ?_⟩, ?_⟩; rotate_left; (focus (cbv; done)); intro i hi; replace hi : 0 <= i /\ i <= ((os.length : Nat) : Int) /\ upto (notB (isOi os e0)) i := hi; obtain ⟨i0, i1, i2⟩ := hi; cbv) | (refine loop_step (O.ar .add .i64 i 1) ?_ ?_ ?_; rotate_left 2; focus (cbv; done))
 all_goals (subst hO hr hF; (try simp only [stdO, SS, sa, az] at *); (try simp only [nc] at *); (try simp only [onc] at *))
 all_goals (try simp only [Na1.F0] at *)
 all_goals try rw [up64 (by omega) (by omega)]
 all_goals first
  | (show (_ : List DV) = _
     first
      | exact di_eq (first_at i2 i0 (by assumption) (show isOi os e0 i = true from by assumption)).symm
      | exact di_eq (first_no i2 (by assumption)).symm
      | done)
  | omega
  | (refine ⟨by omega, by omega, (Rw.eta (by first | assumption | exact Rw.sub (by first | assumption | exact Rw.sub (by assumption) (by omega) rfl) (by omega) rfl) (by omega) (by omega)).trans ?_⟩; rfl)
  | (show (lk _ _).isSome = true; kernel_rfl)
  | exact upto_z
  | exact upto_s i2 (notB_f (show isOi os e0 i = false from by assumption))
  | exact ⟨trivial, trivial⟩
  | trivial
  | done
namespace Na2
structure Fns where
 oiI : List (List L) -> Int -> Int
def F0 : Fns := ⟨oiI⟩
def ct (F : Fns) : CT := fun f ds => match f with
 | 117 => match ds with
   | [.one (.s 4 os), .fn 165 [[.v (.int .i64 e0), .v (.int .i64 e1), .v (.int .i64 e2), .v (.int .i64 e3)]]] => some (fun _ => Rw [tI, tI, tI, tI] os /\ os.length <= 1099511627776, [.one (.v (.int .i64 (F.oiI os e0)))])
   | _ => none
 | _ => none
theorem ct_ok : CTok Tryz.prog (ct F0) := by
 intro f ds pre res h hp
 unfold ct at h
 split at h <;> (try split at h) <;> cases h
 exact c_slices_IndexFunc_loop_example_g00978_impl_Obj_loop_example_g00978_impl_Obj_2 _ _ _ _ _ hp
def B : TB Tryz.prog := tb ct_ok
end Na2
theorem c_slices_ContainsFunc_loop_example_g00978_impl_Obj_loop_example_g00978_impl_Obj_2 (os : List (List L)) (e0 e1 e2 e3 : Int) (hp : Rw [tI, tI, tI, tI] os /\ os.length <= 1099511627776) : Ctr Tryz.prog 164 [.one (.s 4 os), .fn 165 [[.v (.int .i64 e0), .v (.int .i64 e1), .v (.int .i64 e2), .v (.int .i64 e3)]]] [.one (.v (.bool (oiB os e0)))] := by
 refine ctr_b Na2.B tabOk mixed 9 _ [4] [.tmp 4] Tryz.func164 rfl rfl rfl rfl rfl ?_
 intro O r (F : Na2.Fns) hO hr (hF : F = Na2.F0)
 cbv
 repeat' first | refine And.intro ?_ ?_ | (refine cbi (fun hb => ?_) (fun hb => ?_) <;> cbv)
 all_goals (subst hO hr hF; (try simp only [stdO, SS, sa, az] at *); (try simp only [nc] at *); (try simp only [onc] at *))
 all_goals (try simp only [Na2.F0] at *)
 all_goals first
  | (show (_ : List DV) = _
     first
      | exact db_eq (decide_eq_true (by assumption)).symm
      | exact db_eq (decide_eq_false (by omega)).symm
      | exact db_eq (b_iff (by unfold oiB; simp only [SS, decide_eq_true_eq]))
      | exact rfl
      | done)
  | exact hp
  | exact rfl
  | trivial
  | done
namespace Na3
structure Fns where
 inR : Int -> Int -> Int -> Bool
 oiB : List (List L) -> Int -> Bool
 dnK : List (List L) -> List (List L) -> Int -> Int
 dnI : List (List L) -> List (List L) -> Int -> Int
 dnS : List (List L) -> Int -> Int
 dnO : List (List L) -> List (List L) -> Int -> Int
 clsOf : Int -> Int
 dzK : List (List L) -> List (List L) -> Int -> Int
 dzI : List (List L) -> List (List L) -> Int -> Int
 dzS : List (List L) -> List (List L) -> Int -> Int
 dzO : List (List L) -> List (List L) -> Int -> Int
def F0 : Fns := ⟨inR, oiB, dnK, dnI, dnS, dnO, clsOf, dzK, dzI, dzS, dzO⟩
def ct (F : Fns) : CT := fun f ds => match f with
 | 87 => match ds with
   | [.one (.v (.int .i64 x)), .one (.v (.int .i64 a)), .one (.v (.int .i64 b))] => some (fun _ => True, [.one (.v (.bool (F.inR x a b)))])
   | _ => none
 | 164 => match ds with
   | [.one (.s 4 os), .fn 165 [[.v (.int .i64 e0), .v (.int .i64 e1), .v (.int .i64 e2), .v (.int .i64 e3)]]] => some (fun _ => Rw [tI, tI, tI, tI] os /\ os.length <= 1099511627776, [.one (.v (.bool (F.oiB os e0)))])
   | _ => none
 | 166 => match ds with
   | [.one (.s 3 sp), .one (.s 3 lg), .one (.v (.int .i64 a))] => some (fun _ => Rw [tI, tI, tI] sp /\ Rw [tI, tI, tI] lg, [.agg [.v (.int .i64 (F.dnK sp lg a)), .v (.int .i64 (F.dnI sp lg a)), .v (.int .i64 (F.dnS sp a)), .v (.int .i64 (F.dnO sp lg a))]])
   | _ => none
 | 167 => match ds with
   | [.one (.v (.int .i64 s))] => some (fun _ => True, [.one (.v (.int .i64 (F.clsOf s)))])
   | _ => none
 | 71 => match ds with
   | [.one (.v (.int .i64 x)), .one (.v (.int .i64 a)), .one (.v (.int .i64 b))] => some (fun _ => True, [.one (.v (.bool (F.inR x a b)))])
   | _ => none
 | 97 => match ds with
   | [.one (.s 3 sp), .one (.s 3 lg), .one (.v (.int .i64 a))] => some (fun _ => Rw [tI, tI, tI] sp /\ Rw [tI, tI, tI] lg /\ sp.length <= 1073741824 /\ lg.length <= 1073741824 /\ -9223372036854775808 <= a /\ a <= 9223372036854775807, [.agg [.v (.int .i64 (F.dzK sp lg a)), .v (.int .i64 (F.dzI sp lg a)), .v (.int .i64 (F.dzS sp lg a)), .v (.int .i64 (F.dzO sp lg a))]])
   | _ => none
 | 147 => match ds with
   | [.one (.v (.int .i64 s))] => some (fun _ => True, [.one (.v (.int .i64 (F.clsOf s)))])
   | _ => none
 | _ => none
theorem ct_ok : CTok Tryz.prog (ct F0) := by
 intro f ds pre res h hp
 unfold ct at h
 split at h <;> (try split at h) <;> cases h
 exact c_impl_between _ _ _ hp
 exact c_slices_ContainsFunc_loop_example_g00978_impl_Obj_loop_example_g00978_impl_Obj_2 _ _ _ _ _ hp
 exact c_impl_denotes _ _ _ hp
 exact c_impl_ClassOf _ hp
 exact c_spec_l01In _ _ _ hp
 exact c_spec_Denotes _ _ _ hp
 exact c_spec_ClassOf _ hp
def B : TB Tryz.prog := tb ct_ok
end Na3
theorem c_impl_objsOk (a0 a1 a2 : List (List L)) (a3 : Int) (a4 a5 a6 a7 a8 a9 a10 a11 : List (List L)) (a12 : Int) (a13 : List (List L)) (a14 a15 a16 a17 : Int) (a18 : Bool) (a19 a20 : Int) (a21 : List (List L)) (a22 a23 : Int) (hp : NsH a6 a7 a8 a9 a10 a11 a13 /\ layOk a6 a7 = true) : Ctr Tryz.prog 84 [.agg [.s 1 a0, .s 1 a1, .s 2 a2, .v (.int .i64 a3), .s 1 a4, .s 2 a5, .s 3 a6, .s 3 a7, .s 4 a8, .s 1 a9, .s 1 a10, .s 1 a11, .v (.int .i64 a12), .s 3 a13, .v (.int .i64 a14), .v (.int .i64 a15), .v (.int .i64 a16), .v (.int .i64 a17), .v (.bool a18), .v (.int .i64 a19), .v (.int .i64 a20), .s 1 a21, .v (.int .i64 a22), .v (.int .i64 a23)]] [.one (.v (.bool (objOk a6 a7 a8 a9 a17)))] := by
 obtain ⟨N, hlay⟩ := hp
 have how := N.ow; have hol := N.ol; have hsw := N.sw; have hlw := N.lw; have hsl := N.sl; have hll := N.ll
 have hcl := N.cl
 have hlc := len_cnt (es := a9)
 have hsb : arI .sub .i64 (a9.length : Int) 1 = a9.length - 1 := sub64 (by omega)
 refine ctr_b Na3.B tabOk mixed 105 _ [4] [.tmp 2] Tryz.func84 rfl rfl rfl rfl rfl ?_
 intro O r (F : Na3.Fns) hO hr (hF : F = Na3.F0)
 cbv
 repeat' first | refine And.intro ?_ ?_ | (refine cbi (fun hb => ?_) (fun hb => ?_) <;> cbv) | (refine ⟨[1, 9, 10, 11], [1], Int, fun i => [.reg 11 (.one (.v (.int .i64 i)))], fun i => 0 <= i /\ i <= ((a8.length : Nat) : Int) /\ upto (obA a6 a7 a8 a9 a17) i, fun i => (a8.length) - i.toNat, ⟨0, ?_, ?_⟩, ?_⟩; rotate_left; (focus (cbv; done)); intro i hi; replace hi : 0 <= i /\ i <= ((a8.length : Nat) : Int) /\ upto (obA a6 a7 a8 a9 a17) i := hi; obtain ⟨i0, i1, i2⟩ := hi; cbv) | (refine loop_step (O.ar .add .i64 i 1) ?_ ?_ ?_; rotate_left 2; focus (cbv; done))
 all_goals (subst hO hr hF; (try simp only [stdO, SS, sa, az] at *); (try simp only [nc] at *); (try simp only [onc] at *))
 all_goals (try simp only [Na3.F0] at *)
 all_goals try rw [up64 (by omega) (by omega)]
 all_goals (try have z := sub1 i0 (by omega))
 all_goals (try simp only [z, hsb, sub_tk] at *)
 all_goals (try have d1 := fun h => dn_i1 (sp := a6) (lg := a7) (a := giI a8 i 1) h)
 all_goals (try have d3 := fun h => dn_i3 (sp := a6) (lg := a7) (a := giI a8 i 1) h)
 all_goals first
  | (exfalso; omega)
  | (show (_ : List DV) = _
     first
      | (refine db_eq ?_; symm; exact oo_no i0 (by assumption) (oa_f1 (by assumption) (by assumption)))
      | (refine db_eq ?_; symm; exact oo_no i0 (by assumption) (oa_f2 (by assumption)))
      | (refine db_eq ?_; symm; exact oo_no i0 (by assumption) (oa_f3 (by assumption)))
      | (refine db_eq ?_; symm; exact oo_no i0 (by assumption) (oa_f4 (by assumption)))
      | (refine db_eq ?_; symm; exact oo_no i0 (by assumption) (oa_f5 (ok_f0 (by assumption))))
      | (refine db_eq ?_; symm; exact oo_no i0 (by assumption) (oa_f5 (ok_f (by first | exact .inl (by assumption) | exact .inr (by assumption) | exact .inl (by omega)) (by first | exact .inl (by assumption) | exact .inr (by assumption) | exact .inl (by omega)))))
      | (refine db_eq ?_; symm; exact oo_end i2 (by omega))
      | (have q : false = true := (by assumption); cases q)
      | done)
  | omega
  | (refine ⟨by omega, by omega, (Rw.eta (by first | assumption | exact Rw.sub (by first | assumption | exact Rw.sub (by assumption) (by omega) rfl) (by omega) rfl) (by omega) (by omega)).trans ?_⟩; rfl)
  | (show okOrder _ _ = true; kernel_rfl)
  | exact ⟨hsw, hlw⟩
  | exact ⟨Rw.take how _, by rw [List.length_take]; omega⟩
  | (have e := d1 (by assumption); omega)
  | (have e := d1 (by assumption); (refine ⟨by omega, by omega, (Rw.eta (by first | assumption | exact Rw.sub (by first | assumption | exact Rw.sub (by assumption) (by omega) rfl) (by omega) rfl) (by omega) (by omega)).trans ?_⟩; rfl))
  | (have e := d3 (by assumption); omega)
  | (have e := d3 (by assumption); (refine ⟨by omega, by omega, (Rw.eta (by first | assumption | exact Rw.sub (by first | assumption | exact Rw.sub (by assumption) (by omega) rfl) (by omega) rfl) (by omega) (by omega)).trans ?_⟩; rfl))
  | exact upto_z
  | exact upto_s i2 (oa_t (by first | exact .inl (by omega) | exact .inr (by assumption)) (by assumption) (by assumption) (by assumption) (ok_t1 (by assumption) (by assumption) (by assumption)))
  | exact upto_s i2 (oa_t (by first | exact .inl (by omega) | exact .inr (by assumption)) (by assumption) (by assumption) (by assumption) (ok_t3 (by assumption) (by assumption) (by assumption)))
  | (have q : false = true := (by assumption); cases q)
  | exact True.intro
  | done
theorem c_spec_l27Objs (a0 a1 a2 : List (List L)) (a3 : Int) (a4 a5 a6 a7 a8 a9 a10 a11 : List (List L)) (a12 : Int) (a13 : List (List L)) (a14 a15 a16 a17 : Int) (a18 : Bool) (a19 a20 : Int) (a21 : List (List L)) (a22 a23 : Int) (hp : NsH a6 a7 a8 a9 a10 a11 a13 /\ layOk a6 a7 = true) : Ctr Tryz.prog 72 [.agg [.s 1 a0, .s 1 a1, .s 2 a2, .v (.int .i64 a3), .s 1 a4, .s 2 a5, .s 3 a6, .s 3 a7, .s 4 a8, .s 1 a9, .s 1 a10, .s 1 a11, .v (.int .i64 a12), .s 3 a13, .v (.int .i64 a14), .v (.int .i64 a15), .v (.int .i64 a16), .v (.int .i64 a17), .v (.bool a18), .v (.int .i64 a19), .v (.int .i64 a20), .s 1 a21, .v (.int .i64 a22), .v (.int .i64 a23)]] [.one (.v (.bool (objOk a6 a7 a8 a9 a17)))] := by
 obtain ⟨N, hlay⟩ := hp
 have how := N.ow; have hol := N.ol; have hsw := N.sw; have hlw := N.lw; have hsl := N.sl; have hll := N.ll
 have hcl := N.cl
 have hlc := len_cnt (es := a9)
 have hsb : arI .sub .i64 (a9.length : Int) 1 = a9.length - 1 := sub64 (by omega)
 refine ctr_b Na3.B tabOk mixed 117 _ [4] [.tmp 2] Tryz.func72 rfl rfl rfl rfl rfl ?_
 intro O r (F : Na3.Fns) hO hr (hF : F = Na3.F0)
 cbv
 repeat' first | refine And.intro ?_ ?_ | (refine cbi (fun hb => ?_) (fun hb => ?_) <;> cbv) | (refine ⟨[1, 3], [1], Int, fun i => [.reg 3 (.one (.v (.int .i64 i)))], fun i => 0 <= i /\ i <= (a8.length : Int) /\ upto (obA a6 a7 a8 a9 a17) i, fun i => a8.length - i.toNat, ⟨0, ?_, ?_⟩, ?_⟩; rotate_left; (focus (cbv; done)); intro i hi; replace hi : 0 <= i /\ i <= (a8.length : Int) /\ upto (obA a6 a7 a8 a9 a17) i := hi; obtain ⟨i0, i1, i2⟩ := hi; cbv) | (refine ⟨[1, 3, 4, 5], [1, 4], Int, fun k => [.reg 5 (.one (.v (.int .i64 k)))], fun k => 0 <= k /\ k <= i /\ upto (fun j => !eqB (giI a8 j 0) (giI a8 i 0)) k, fun k => (i - k).toNat, ⟨0, ?_, ?_⟩, ?_⟩; rotate_left; (focus (cbv; done)); intro k hk; replace hk : 0 <= k /\ k <= i /\ upto (fun j => !eqB (giI a8 j 0) (giI a8 i 0)) k := hk; obtain ⟨k0, k1, k2⟩ := hk; cbv) | (refine loop_step (O.ar .add .i64 k 1) ?_ ?_ ?_; rotate_left 2; focus (cbv; done)) | (refine loop_step (O.ar .add .i64 i 1) ?_ ?_ ?_; rotate_left 2; focus (cbv; done))
 all_goals (subst hO hr hF; (try simp only [stdO, SS, sa, az] at *); (try simp only [nc] at *); (try simp only [onc] at *))
 all_goals (try simp only [Na3.F0] at *)
 all_goals try rw [up64 (by omega) (by omega)]
 all_goals (try have z := sub1 i0 (by omega))
 all_goals (try simp only [z, hsb] at *)
 all_goals (try simp only [dz_t1 hlay, dz_t2 hlay, dz_t3 hlay] at *)
 all_goals (try have z6 : arI .add .i64 k 1 = k + 1 := add64 (by omega))
 all_goals (try simp only [z6] at *)
 all_goals (try have d1 := fun h => dn_i1 (sp := a6) (lg := a7) (a := giI a8 i 1) h)
 all_goals (try have d3 := fun h => dn_i3 (sp := a6) (lg := a7) (a := giI a8 i 1) h)
 all_goals (try have d4 := oi_no (os := a8) (i := i) k2 (by omega) i0)
 all_goals first
  | (exfalso; omega)
  | (show (_ : List DV) = _
     first
      | (refine db_eq ?_; symm; exact oo_no i0 (by assumption) (oa_f1 (by assumption) (by assumption)))
      | (refine db_eq ?_; symm; exact oo_no i0 (by assumption) (oa_f2 (by assumption)))
      | (refine db_eq ?_; symm; exact oo_no i0 (by assumption) (oa_f3 (by assumption)))
      | (refine db_eq ?_; symm; exact oo_no i0 (by assumption) (oa_f4 (oi_yes k0 (by assumption) (by assumption) (by assumption))))
      | (refine db_eq ?_; symm; exact oo_no i0 (by assumption) (oa_f5 (ok_f0 (by assumption))))
      | (refine db_eq ?_; symm; exact oo_no i0 (by assumption) (oa_f5 (ok_f (by first | exact .inl (by assumption) | exact .inr (by assumption) | exact .inl (by omega)) (by first | exact .inl (by assumption) | exact .inr (by assumption) | exact .inl (by omega)))))
      | (refine db_eq ?_; symm; exact oo_end i2 (by omega))
      | (have q : false = true := (by assumption); cases q)
      | done)
  | omega
  | (refine ⟨by omega, by omega, (Rw.eta (by first | assumption | exact Rw.sub (by first | assumption | exact Rw.sub (by assumption) (by omega) rfl) (by omega) rfl) (by omega) (by omega)).trans ?_⟩; rfl)
  | (show okOrder _ _ = true; kernel_rfl)
  | exact ⟨hsw, hlw, hsl, hll, gi_rg how rfl (by omega)⟩
  | (have e := d1 (by assumption); omega)
  | (have e := d1 (by assumption); (refine ⟨by omega, by omega, (Rw.eta (by first | assumption | exact Rw.sub (by first | assumption | exact Rw.sub (by assumption) (by omega) rfl) (by omega) rfl) (by omega) (by omega)).trans ?_⟩; rfl))
  | (have e := d3 (by assumption); omega)
  | (have e := d3 (by assumption); (refine ⟨by omega, by omega, (Rw.eta (by first | assumption | exact Rw.sub (by first | assumption | exact Rw.sub (by assumption) (by omega) rfl) (by omega) rfl) (by omega) (by omega)).trans ?_⟩; rfl))
  | exact upto_z
  | exact upto_s k2 (by show (!eqB _ _) = true; rw [eqB_f (by assumption)]; rfl)
  | exact upto_s i2 (oa_t (by first | exact .inl (by omega) | exact .inr (by assumption)) (by assumption) (by assumption) (by assumption) (ok_t1 (by assumption) (by assumption) (by assumption)))
  | exact upto_s i2 (oa_t (by first | exact .inl (by omega) | exact .inr (by assumption)) (by assumption) (by assumption) (by assumption) (ok_t3 (by assumption) (by assumption) (by assumption)))
  | (have q : false = true := (by assumption); cases q)
  | exact Int.natCast_nonneg _
  | exact True.intro
  | done
end Go.V