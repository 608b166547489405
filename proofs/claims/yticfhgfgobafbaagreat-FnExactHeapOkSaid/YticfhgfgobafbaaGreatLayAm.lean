/-
  Contracts, by evaluation.
-/import Derived.Test.YticfhgfgobafbaaGreatS9
import Derived.Test.YticfhgfgobafbaaGreatHA
import Derived.Test.YticfhgfgobafbaaGreatHeapCm
set_option linter.all false
namespace Go.V
open Go Go.Proofs
set_option maxRecDepth 1000000
set_option maxHeartbeats 8000000
namespace La0
structure Fns where
 inR : Int -> Int -> Int -> Bool
 clsSz : Int -> Int
def F0 : Fns := ⟨inR, clsSz⟩
def ct (F : Fns) : CT := fun f ds => match f with
 | 162 => match ds with
   | [.one (.v (.int .i64 k))] => some (fun _ => True, [.one (.v (.bool (F.inR k 0 3)))])
   | _ => none
 | 163 => match ds with
   | [.one (.v (.int .i64 k))] => some (fun _ => True, [.one (.v (.int .i64 (F.clsSz k)))])
   | _ => none
 | 71 => match ds with
   | [.one (.v (.int .i64 x)), .one (.v (.int .i64 a)), .one (.v (.int .i64 b))] => some (fun _ => True, [.one (.v (.bool (F.inR x a b)))])
   | _ => none
 | _ => none
theorem ct_ok : CTok Tryz.prog (ct F0) := by
 intro f ds pre res h hp
 unfold ct at h
 split at h <;> (try split at h) <;> cases h
 exact c_impl_classOk _ hp
 exact c_impl_ClassSize _ hp
 exact c_spec_l01In _ _ _ hp
def B : TB Tryz.prog := tb ct_ok
end La0
theorem c_impl_SlotsOf (k : Int) (hp : True) : Ctr Tryz.prog 110 [.one (.v (.int .i64 k))] [.one (.v (.int .i64 (slN k)))] := by
 refine ctr_b La0.B tabOk mixed 9 _ [3] [.tmp 2] Tryz.func110 rfl rfl rfl rfl rfl ?_
 intro O r (F : La0.Fns) hO hr (hF : F = La0.F0)
 cbv
 repeat' first | refine And.intro ?_ ?_ | (refine cbi (fun hb => ?_) (fun hb => ?_) <;> cbv)
 all_goals (subst hO hr hF; (try simp only [stdO, SS, sa, az] at *); (try simp only [nc] at *); (try simp only [onc] at *))
 all_goals (try simp only [La0.F0] at *)
 all_goals first
  | (show (_ : List DV) = _
     first
      | exact di_eq (slN_impl (by assumption))
      | exact di_eq (slN_no (by assumption)).symm
      | done)
  | exact True.intro
  | (have := cls_b (k := k) (by assumption); omega)
  | (show okOrder _ _ = true; kernel_rfl)
  | done
theorem c_spec_SlotsOf (k : Int) (hp : True) : Ctr Tryz.prog 200 [.one (.v (.int .i64 k))] [.one (.v (.int .i64 (slN k)))] := by
 refine ctr_b La0.B tabOk mixed 9 _ [3] [.tmp 2] Tryz.func200 rfl rfl rfl rfl rfl ?_
 intro O r (F : La0.Fns) hO hr (hF : F = La0.F0)
 cbv
 repeat' first | refine And.intro ?_ ?_ | (refine cbi (fun hb => ?_) (fun hb => ?_) <;> cbv)
 all_goals (subst hO hr hF; (try simp only [stdO, SS, sa, az] at *); (try simp only [nc] at *); (try simp only [onc] at *))
 all_goals (try simp only [La0.F0] at *)
 all_goals first
  | (show (_ : List DV) = _
     first
      | exact di_eq (slN_spec (by assumption))
      | exact di_eq (slN_no (by assumption)).symm
      | done)
  | exact True.intro
  | (rcases cls4 (k := k) (by assumption) with rfl | rfl | rfl | rfl <;> decide)
  | (show okOrder _ _ = true; kernel_rfl)
  | done
namespace La1
structure Fns where
 inR : Int -> Int -> Int -> Bool
def F0 : Fns := ⟨inR⟩
def ct (F : Fns) : CT := fun f ds => match f with
 | 87 => match ds with
   | [.one (.v (.int .i64 x)), .one (.v (.int .i64 a)), .one (.v (.int .i64 b))] => some (fun _ => True, [.one (.v (.bool (F.inR x a b)))])
   | _ => none
 | 71 => match ds with
   | [.one (.v (.int .i64 x)), .one (.v (.int .i64 a)), .one (.v (.int .i64 b))] => some (fun _ => True, [.one (.v (.bool (F.inR x a b)))])
   | _ => none
 | _ => none
theorem ct_ok : CTok Tryz.prog (ct F0) := by
 intro f ds pre res h hp
 unfold ct at h
 split at h <;> (try split at h) <;> cases h
 exact c_impl_between _ _ _ hp
 exact c_spec_l01In _ _ _ hp
def B : TB Tryz.prog := tb ct_ok
end La1
theorem c_impl_BitmapOk (n b : Int) (hp : True) : Ctr Tryz.prog 206 [.one (.v (.int .i64 n)), .one (.v (.int .i64 b))] [.one (.v (.bool (bmOk n b)))] := by
 refine ctr_b La1.B tabOk mixed 14 _ [4] [.tmp 4] Tryz.func206 rfl rfl rfl rfl rfl ?_
 intro O r (F : La1.Fns) hO hr (hF : F = La1.F0)
 cbv
 repeat' first | refine And.intro ?_ ?_ | (refine cbi (fun hb => ?_) (fun hb => ?_) <;> cbv)
 all_goals (subst hO hr hF; (try simp only [stdO, SS, sa, az] at *); (try simp only [nc] at *); (try simp only [onc] at *))
 all_goals (try simp only [La1.F0] at *)
 all_goals try (have e := shl16 (n := n) (by assumption); simp only [e.1])
 all_goals first
  | (show (_ : List DV) = _
     first
      | exact db_eq (bm_yes (by assumption)).symm
      | exact db_eq (bm_no (by assumption)).symm
      | done)
  | exact True.intro
  | (have := inR_t.1 (‹inR n 1 16 = true›); omega)
  | (show okOrder _ _ = true; kernel_rfl)
  | done
theorem c_spec_BitmapOk (n b : Int) (hp : True) : Ctr Tryz.prog 199 [.one (.v (.int .i64 n)), .one (.v (.int .i64 b))] [.one (.v (.bool (bmOk n b)))] := by
 refine ctr_b La1.B tabOk mixed 15 _ [4] [.tmp 4] Tryz.func199 rfl rfl rfl rfl rfl ?_
 intro O r (F : La1.Fns) hO hr (hF : F = La1.F0)
 cbv
 repeat' first | refine And.intro ?_ ?_ | (refine cbi (fun hb => ?_) (fun hb => ?_) <;> cbv)
 all_goals (subst hO hr hF; (try simp only [stdO, SS, sa, az] at *); (try simp only [nc] at *); (try simp only [onc] at *))
 all_goals (try simp only [La1.F0] at *)
 all_goals try (have e := shl16 (n := n) (by assumption); simp only [e.2.1])
 all_goals first
  | (show (_ : List DV) = _
     first
      | exact db_eq (bm_yes (by assumption)).symm
      | exact db_eq (bm_no (by assumption)).symm
      | done)
  | exact True.intro
  | exact (shl16 (by assumption)).2.2
  | (show okOrder _ _ = true; kernel_rfl)
  | done
namespace La2
structure Fns where
 inR : Int -> Int -> Int -> Bool
 slN : Int -> Int
 bmOk : Int -> Int -> Bool
def F0 : Fns := ⟨inR, slN, bmOk⟩
def ct (F : Fns) : CT := fun f ds => match f with
 | 87 => match ds with
   | [.one (.v (.int .i64 x)), .one (.v (.int .i64 a)), .one (.v (.int .i64 b))] => some (fun _ => True, [.one (.v (.bool (F.inR x a b)))])
   | _ => none
 | 162 => match ds with
   | [.one (.v (.int .i64 k))] => some (fun _ => True, [.one (.v (.bool (F.inR k 0 3)))])
   | _ => none
 | 110 => match ds with
   | [.one (.v (.int .i64 k))] => some (fun _ => True, [.one (.v (.int .i64 (F.slN k)))])
   | _ => none
 | 206 => match ds with
   | [.one (.v (.int .i64 n)), .one (.v (.int .i64 b))] => some (fun _ => True, [.one (.v (.bool (F.bmOk n b)))])
   | _ => none
 | 71 => match ds with
   | [.one (.v (.int .i64 x)), .one (.v (.int .i64 a)), .one (.v (.int .i64 b))] => some (fun _ => True, [.one (.v (.bool (F.inR x a b)))])
   | _ => none
 | 200 => match ds with
   | [.one (.v (.int .i64 k))] => some (fun _ => True, [.one (.v (.int .i64 (F.slN k)))])
   | _ => none
 | 199 => match ds with
   | [.one (.v (.int .i64 n)), .one (.v (.int .i64 b))] => some (fun _ => True, [.one (.v (.bool (F.bmOk n b)))])
   | _ => none
 | _ => none
theorem ct_ok : CTok Tryz.prog (ct F0) := by
 intro f ds pre res h hp
 unfold ct at h
 split at h <;> (try split at h) <;> cases h
 exact c_impl_between _ _ _ hp
 exact c_impl_classOk _ hp
 exact c_impl_SlotsOf _ hp
 exact c_impl_BitmapOk _ _ hp
 exact c_spec_l01In _ _ _ hp
 exact c_spec_SlotsOf _ hp
 exact c_spec_BitmapOk _ _ hp
def B : TB Tryz.prog := tb ct_ok
end La2
theorem c_impl_SpanOk (p k b : Int) (hp : True) : Ctr Tryz.prog 153 [.agg [.v (.int .i64 p), .v (.int .i64 k), .v (.int .i64 b)]] [.one (.v (.bool (spOk p k b)))] := by
 refine ctr_b La2.B tabOk mixed 19 _ [4] [.tmp 2] Tryz.func153 rfl rfl rfl rfl rfl ?_
 intro O r (F : La2.Fns) hO hr (hF : F = La2.F0)
 cbv
 repeat' first | refine And.intro ?_ ?_ | (refine cbi (fun hb => ?_) (fun hb => ?_) <;> cbv)
 all_goals (subst hO hr hF; (try simp only [stdO, SS, sa, az] at *); (try simp only [nc] at *); (try simp only [onc] at *))
 all_goals (try simp only [La2.F0] at *)
 all_goals first
  | (show (_ : List DV) = _
     first
      | exact db_eq (sp_yes (by assumption)).symm
      | exact db_eq (sp_no1 (by assumption)).symm
      | exact db_eq (sp_no2 (by assumption)).symm
      | done)
  | exact True.intro
  | (show okOrder _ _ = true; kernel_rfl)
  | done
theorem c_spec_SpanOk (p k b : Int) (hp : True) : Ctr Tryz.prog 138 [.agg [.v (.int .i64 p), .v (.int .i64 k), .v (.int .i64 b)]] [.one (.v (.bool (spOk p k b)))] := by
 refine ctr_b La2.B tabOk mixed 14 _ [4] [.tmp 2] Tryz.func138 rfl rfl rfl rfl rfl ?_
 intro O r (F : La2.Fns) hO hr (hF : F = La2.F0)
 cbv
 repeat' first | refine And.intro ?_ ?_ | (refine cbi (fun hb => ?_) (fun hb => ?_) <;> cbv)
 all_goals (subst hO hr hF; (try simp only [stdO, SS, sa, az] at *); (try simp only [nc] at *); (try simp only [onc] at *))
 all_goals (try simp only [La2.F0] at *)
 all_goals first
  | (show (_ : List DV) = _
     first
      | exact db_eq (sp_yes (by assumption)).symm
      | exact db_eq (sp_no1 (by assumption)).symm
      | done)
  | exact True.intro
  | (show okOrder _ _ = true; kernel_rfl)
  | done
theorem c_impl_PagesFor (s : Int) (hp : True) : Ctr Tryz.prog 207 [.one (.v (.int .i64 s))] [.one (.v (.int .i64 (pfN s)))] := by
 refine ctr_b La1.B tabOk mixed 10 _ [3] [.tmp 2] Tryz.func207 rfl rfl rfl rfl rfl ?_
 intro O r (F : La1.Fns) hO hr (hF : F = La1.F0)
 cbv
 repeat' first | refine And.intro ?_ ?_ | (refine cbi (fun hb => ?_) (fun hb => ?_) <;> cbv)
 all_goals (subst hO hr hF; (try simp only [stdO, SS, sa, az] at *); (try simp only [nc] at *); (try simp only [onc] at *))
 all_goals (try simp only [La1.F0] at *)
 all_goals first
  | (show (_ : List DV) = _
     first
      | exact di_eq (pf_yes (by assumption))
      | exact di_eq (pf_no (by assumption)).symm
      | done)
  | exact True.intro
  | omega
  | (show okOrder _ _ = true; kernel_rfl)
  | done
theorem c_spec_PagesFor (s : Int) (hp : True) : Ctr Tryz.prog 201 [.one (.v (.int .i64 s))] [.one (.v (.int .i64 (pfN s)))] := by
 refine ctr_b La1.B tabOk mixed 10 _ [3] [.tmp 2] Tryz.func201 rfl rfl rfl rfl rfl ?_
 intro O r (F : La1.Fns) hO hr (hF : F = La1.F0)
 cbv
 repeat' first | refine And.intro ?_ ?_ | (refine cbi (fun hb => ?_) (fun hb => ?_) <;> cbv)
 all_goals (subst hO hr hF; (try simp only [stdO, SS, sa, az] at *); (try simp only [nc] at *); (try simp only [onc] at *))
 all_goals (try simp only [La1.F0] at *)
 all_goals first
  | (show (_ : List DV) = _
     first
      | exact di_eq (pf_yes (by assumption))
      | exact di_eq (pf_no (by assumption)).symm
      | done)
  | exact True.intro
  | omega
  | (show okOrder _ _ = true; kernel_rfl)
  | done
namespace La3
structure Fns where
 inR : Int -> Int -> Int -> Bool
 pfN : Int -> Int
def F0 : Fns := ⟨inR, pfN⟩
def ct (F : Fns) : CT := fun f ds => match f with
 | 87 => match ds with
   | [.one (.v (.int .i64 x)), .one (.v (.int .i64 a)), .one (.v (.int .i64 b))] => some (fun _ => True, [.one (.v (.bool (F.inR x a b)))])
   | _ => none
 | 207 => match ds with
   | [.one (.v (.int .i64 s))] => some (fun _ => True, [.one (.v (.int .i64 (F.pfN s)))])
   | _ => none
 | 201 => match ds with
   | [.one (.v (.int .i64 s))] => some (fun _ => True, [.one (.v (.int .i64 (F.pfN s)))])
   | _ => none
 | 71 => match ds with
   | [.one (.v (.int .i64 x)), .one (.v (.int .i64 a)), .one (.v (.int .i64 b))] => some (fun _ => True, [.one (.v (.bool (F.inR x a b)))])
   | _ => none
 | _ => none
theorem ct_ok : CTok Tryz.prog (ct F0) := by
 intro f ds pre res h hp
 unfold ct at h
 split at h <;> (try split at h) <;> cases h
 exact c_impl_between _ _ _ hp
 exact c_impl_PagesFor _ hp
 exact c_spec_PagesFor _ hp
 exact c_spec_l01In _ _ _ hp
def B : TB Tryz.prog := tb ct_ok
end La3
theorem c_impl_LargeOk (p n s : Int) (hp : True) : Ctr Tryz.prog 154 [.agg [.v (.int .i64 p), .v (.int .i64 n), .v (.int .i64 s)]] [.one (.v (.bool (lgOk p n s)))] := by
 refine ctr_b La3.B tabOk mixed 22 _ [4] [.tmp 2] Tryz.func154 rfl rfl rfl rfl rfl ?_
 intro O r (F : La3.Fns) hO hr (hF : F = La3.F0)
 cbv
 repeat' first | refine And.intro ?_ ?_ | (refine cbi (fun hb => ?_) (fun hb => ?_) <;> cbv)
 all_goals (subst hO hr hF; (try simp only [stdO, SS, sa, az] at *); (try simp only [nc] at *); (try simp only [onc] at *))
 all_goals (try simp only [La3.F0] at *)
 all_goals first
  | (show (_ : List DV) = _
     first
      | (have b := pf_b (s := s) (by assumption); rw [show arI .sub .i64 32 n = 32 - n from sub64 (by omega)]; exact db_eq (lg_yes (by assumption) (by assumption)).symm)
      | exact db_eq (lg_no1 (by assumption)).symm
      | exact db_eq (lg_no2 (by assumption)).symm
      | done)
  | exact True.intro
  | (show okOrder _ _ = true; kernel_rfl)
  | done
theorem c_spec_LargeOk (p n s : Int) (hp : True) : Ctr Tryz.prog 139 [.agg [.v (.int .i64 p), .v (.int .i64 n), .v (.int .i64 s)]] [.one (.v (.bool (lgOk p n s)))] := by
 refine ctr_b La3.B tabOk mixed 22 _ [4] [.tmp 2] Tryz.func139 rfl rfl rfl rfl rfl ?_
 intro O r (F : La3.Fns) hO hr (hF : F = La3.F0)
 cbv
 repeat' first | refine And.intro ?_ ?_ | (refine cbi (fun hb => ?_) (fun hb => ?_) <;> cbv)
 all_goals (subst hO hr hF; (try simp only [stdO, SS, sa, az] at *); (try simp only [nc] at *); (try simp only [onc] at *))
 all_goals (try simp only [La3.F0] at *)
 all_goals first
  | (show (_ : List DV) = _
     first
      | (have q := pf_pos.1 (‹0 < pfN s›); have b := pf_b q; rw [show arI .sub .i64 32 (pfN s) = 32 - pfN s from sub64 (by omega), ‹n = pfN s›]; exact db_eq (lg_yes q rfl).symm)
      | (refine db_eq (lg_no1 ?_).symm; cases q : inR s 9 1000; rfl; have := pf_pos.2 q; omega)
      | exact db_eq (lg_no2 (by assumption)).symm
      | done)
  | exact True.intro
  | (show okOrder _ _ = true; kernel_rfl)
  | done
namespace La4
structure Fns where
 inR : Int -> Int -> Int -> Bool
 spOk : Int -> Int -> Int -> Bool
 clsSz : Int -> Int
 slN : Int -> Int
 lgOk : Int -> Int -> Int -> Bool
def F0 : Fns := ⟨inR, spOk, clsSz, slN, lgOk⟩
def ct (F : Fns) : CT := fun f ds => match f with
 | 87 => match ds with
   | [.one (.v (.int .i64 x)), .one (.v (.int .i64 a)), .one (.v (.int .i64 b))] => some (fun _ => True, [.one (.v (.bool (F.inR x a b)))])
   | _ => none
 | 153 => match ds with
   | [.agg [.v (.int .i64 p), .v (.int .i64 k), .v (.int .i64 b)]] => some (fun _ => True, [.one (.v (.bool (F.spOk p k b)))])
   | _ => none
 | 163 => match ds with
   | [.one (.v (.int .i64 k))] => some (fun _ => True, [.one (.v (.int .i64 (F.clsSz k)))])
   | _ => none
 | 110 => match ds with
   | [.one (.v (.int .i64 k))] => some (fun _ => True, [.one (.v (.int .i64 (F.slN k)))])
   | _ => none
 | 154 => match ds with
   | [.agg [.v (.int .i64 p), .v (.int .i64 n), .v (.int .i64 s)]] => some (fun _ => True, [.one (.v (.bool (F.lgOk p n s)))])
   | _ => none
 | 138 => match ds with
   | [.agg [.v (.int .i64 p), .v (.int .i64 k), .v (.int .i64 b)]] => some (fun _ => True, [.one (.v (.bool (F.spOk p k b)))])
   | _ => none
 | 146 => match ds with
   | [.one (.v (.int .i64 k))] => some (fun _ => True, [.one (.v (.int .i64 (F.clsSz k)))])
   | _ => none
 | 139 => match ds with
   | [.agg [.v (.int .i64 p), .v (.int .i64 n), .v (.int .i64 s)]] => some (fun _ => True, [.one (.v (.bool (F.lgOk p n s)))])
   | _ => none
 | _ => none
theorem ct_ok : CTok Tryz.prog (ct F0) := by
 intro f ds pre res h hp
 unfold ct at h
 split at h <;> (try split at h) <;> cases h
 exact c_impl_between _ _ _ hp
 exact c_impl_SpanOk _ _ _ hp
 exact c_impl_ClassSize _ hp
 exact c_impl_SlotsOf _ hp
 exact c_impl_LargeOk _ _ _ hp
 exact c_spec_SpanOk _ _ _ hp
 exact c_spec_ClassSize _ hp
 exact c_spec_LargeOk _ _ _ hp
def B : TB Tryz.prog := tb ct_ok
end La4
theorem c_impl_SlotAt (p k b a : Int) (hp : True) : Ctr Tryz.prog 210 [.agg [.v (.int .i64 p), .v (.int .i64 k), .v (.int .i64 b)], .one (.v (.int .i64 a))] [.one (.v (.int .i64 (saS p k b a))), .one (.v (.int .i64 (saO p k b a)))] := by
 refine ctr_b La4.B tabOk mixed 38 _ [3, 3] [.tmp 4, .tmp 5] Tryz.func210 rfl rfl rfl rfl rfl ?_
 intro O r (F : La4.Fns) hO hr (hF : F = La4.F0)
 cbv
 repeat' first | refine And.intro ?_ ?_ | (refine cbi (fun hb => ?_) (fun hb => ?_) <;> cbv)
 all_goals (subst hO hr hF; (try simp only [stdO, SS, sa, az] at *); (try simp only [nc] at *); (try simp only [onc] at *))
 all_goals (try simp only [La4.F0] at *)
 all_goals try (have t := sp_t (p := p) (k := k) (b := b) (by assumption); have c := cls_b t.2.2.1; have e := pg16 (p := p) ⟨t.1, t.2.1⟩; try simp only [e.1, e.2] at *)
 all_goals first
  | (show (_ : List DV) = _
     first
      | (have q := sa_impl (p := p) (k := k) (b := b) (a := a) (by assumption) (by assumption); exact dd_eq q.1.symm q.2.symm)
      | (have q := sa_no (sa_f1 (p := p) (k := k) (b := b) (a := a) (by assumption)); exact dd_eq q.1.symm q.2.symm)
      | (have q := sa_no (sa_f2 (p := p) (k := k) (b := b) (a := a) (by assumption)); exact dd_eq q.1.symm q.2.symm)
      | done)
  | exact True.intro
  | (show okOrder _ _ = true; kernel_rfl)
  | omega
  | done
theorem c_spec_SlotAt (p k b a : Int) (hp : (-9223372036854775808 <= a /\ a <= 9223372036854775807)) : Ctr Tryz.prog 175 [.agg [.v (.int .i64 p), .v (.int .i64 k), .v (.int .i64 b)], .one (.v (.int .i64 a))] [.one (.v (.int .i64 (saS p k b a))), .one (.v (.int .i64 (saO p k b a)))] := by
 refine ctr_b La4.B tabOk mixed 33 _ [3, 3] [.tmp 4, .tmp 5] Tryz.func175 rfl rfl rfl rfl rfl ?_
 intro O r (F : La4.Fns) hO hr (hF : F = La4.F0)
 cbv
 repeat' first | refine And.intro ?_ ?_ | (refine cbi (fun hb => ?_) (fun hb => ?_) <;> cbv)
 all_goals (subst hO hr hF; (try simp only [stdO, SS, sa, az] at *); (try simp only [nc] at *); (try simp only [onc] at *))
 all_goals (try simp only [La4.F0] at *)
 all_goals try (have t := sp_t (p := p) (k := k) (b := b) (by assumption); have c := cls_b t.2.2.1)
 all_goals first
  | (show (_ : List DV) = _
     first
      | (have q := sa_spec (p := p) (k := k) (b := b) (a := a) (by assumption) (by omega) (by assumption) (by omega); exact dd_eq q.1.symm q.2.symm)
      | (have q := sa_no (sa_f1 (p := p) (k := k) (b := b) (a := a) (by assumption)); exact dd_eq q.1.symm q.2.symm)
      | (have q := sa_no (sa_f3 (p := p) (k := k) (b := b) (a := a) (.inl (by omega)) (by omega)); exact dd_eq q.1.symm q.2.symm)
      | (have q := sa_no (sa_f3 (p := p) (k := k) (b := b) (a := a) (.inr (by assumption)) (by omega)); exact dd_eq q.1.symm q.2.symm)
      | done)
  | exact True.intro
  | (show okOrder _ _ = true; kernel_rfl)
  | omega
  | done
theorem c_impl_SpanAddr (p k b s : Int) (hp : True) : Ctr Tryz.prog 112 [.agg [.v (.int .i64 p), .v (.int .i64 k), .v (.int .i64 b)], .one (.v (.int .i64 s))] [.one (.v (.int .i64 (aaI p k b s)))] := by
 refine ctr_b La4.B tabOk mixed 26 _ [3] [.tmp 4] Tryz.func112 rfl rfl rfl rfl rfl ?_
 intro O r (F : La4.Fns) hO hr (hF : F = La4.F0)
 cbv
 repeat' first | refine And.intro ?_ ?_ | (refine cbi (fun hb => ?_) (fun hb => ?_) <;> cbv)
 all_goals (subst hO hr hF; (try simp only [stdO, SS, sa, az] at *); (try simp only [nc] at *); (try simp only [onc] at *))
 all_goals (try simp only [La4.F0] at *)
 all_goals try (have t := sp_t (p := p) (k := k) (b := b) (by assumption); have c := cls_b t.2.2.1; have e : arI .sub .i64 (slN k) 1 = slN k - 1 := sub64 (by omega); try simp only [e] at *)
 all_goals first
  | (show (_ : List DV) = _
     first
      | exact di_eq (aa_yes (by assumption) (by assumption))
      | exact di_eq (aa_no (.inl (by assumption))).symm
      | exact di_eq (aa_no (.inr (by assumption))).symm
      | done)
  | exact True.intro
  | (show okOrder _ _ = true; kernel_rfl)
  | omega
  | done
theorem c_impl_LargeHas (p n s a : Int) (hp : True) : Ctr Tryz.prog 211 [.agg [.v (.int .i64 p), .v (.int .i64 n), .v (.int .i64 s)], .one (.v (.int .i64 a))] [.one (.v (.bool (lhB p n s a)))] := by
 refine ctr_b La4.B tabOk mixed 21 _ [4] [.tmp 4] Tryz.func211 rfl rfl rfl rfl rfl ?_
 intro O r (F : La4.Fns) hO hr (hF : F = La4.F0)
 cbv
 repeat' first | refine And.intro ?_ ?_ | (refine cbi (fun hb => ?_) (fun hb => ?_) <;> cbv)
 all_goals (subst hO hr hF; (try simp only [stdO, SS, sa, az] at *); (try simp only [nc] at *); (try simp only [onc] at *))
 all_goals (try simp only [La4.F0] at *)
 all_goals try (have e := lh_ar (p := p) (n := n) (s := s) (by assumption); try simp only [e.2.2])
 all_goals first
  | (show (_ : List DV) = _
     first
      | (rw [e.1]; exact db_eq (lh_yes (by assumption)).symm)
      | exact db_eq (lh_no1 (by assumption)).symm
      | done)
  | exact True.intro
  | (show okOrder _ _ = true; kernel_rfl)
  | done
theorem c_spec_LargeHas (p n s a : Int) (hp : True) : Ctr Tryz.prog 177 [.agg [.v (.int .i64 p), .v (.int .i64 n), .v (.int .i64 s)], .one (.v (.int .i64 a))] [.one (.v (.bool (lhB p n s a)))] := by
 refine ctr_b La4.B tabOk mixed 24 _ [4] [.tmp 4] Tryz.func177 rfl rfl rfl rfl rfl ?_
 intro O r (F : La4.Fns) hO hr (hF : F = La4.F0)
 cbv
 repeat' first | refine And.intro ?_ ?_ | (refine cbi (fun hb => ?_) (fun hb => ?_) <;> cbv)
 all_goals (subst hO hr hF; (try simp only [stdO, SS, sa, az] at *); (try simp only [nc] at *); (try simp only [onc] at *))
 all_goals (try simp only [La4.F0] at *)
 all_goals try (have e := lh_ar (p := p) (n := n) (s := s) (by assumption); try simp only [e.1] at *)
 all_goals first
  | (show (_ : List DV) = _
     first
      | exact db_eq (lh_no1 (by assumption)).symm
      | (refine db_eq (b_iff ?_); rw [lh_yes (by assumption), inR_t]; simp only [SS, cmpI, decide_eq_true_eq]; omega)
      | (refine db_eq (b_iff ?_); rw [lh_yes (by assumption), inR_t, e.2.1]; simp only [cmpI, decide_eq_true_eq]; omega)
      | (refine db_eq (b_iff ?_); rw [lh_yes (by assumption), inR_t]; simp only [Bool.false_eq_true, false_iff]; omega)
      | done)
  | exact True.intro
  | (show okOrder _ _ = true; kernel_rfl)
  | done
namespace La5
structure Fns where
 lhB : Int -> Int -> Int -> Int -> Bool
def F0 : Fns := ⟨lhB⟩
def ct (F : Fns) : CT := fun f ds => match f with
 | 211 => match ds with
   | [.agg [.v (.int .i64 p), .v (.int .i64 n), .v (.int .i64 s)], .one (.v (.int .i64 a))] => some (fun _ => True, [.one (.v (.bool (F.lhB p n s a)))])
   | _ => none
 | 177 => match ds with
   | [.agg [.v (.int .i64 p), .v (.int .i64 n), .v (.int .i64 s)], .one (.v (.int .i64 a))] => some (fun _ => True, [.one (.v (.bool (F.lhB p n s a)))])
   | _ => none
 | _ => none
theorem ct_ok : CTok Tryz.prog (ct F0) := by
 intro f ds pre res h hp
 unfold ct at h
 split at h <;> (try split at h) <;> cases h
 exact c_impl_LargeHas _ _ _ _ hp
 exact c_spec_LargeHas _ _ _ _ hp
def B : TB Tryz.prog := tb ct_ok
end La5
theorem c_impl_LargeOffset (p n s a : Int) (hp : True) : Ctr Tryz.prog 212 [.agg [.v (.int .i64 p), .v (.int .i64 n), .v (.int .i64 s)], .one (.v (.int .i64 a))] [.one (.v (.int .i64 (loI p n s a)))] := by
 refine ctr_b La5.B tabOk mixed 14 _ [3] [.tmp 4] Tryz.func212 rfl rfl rfl rfl rfl ?_
 intro O r (F : La5.Fns) hO hr (hF : F = La5.F0)
 cbv
 repeat' first | refine And.intro ?_ ?_ | (refine cbi (fun hb => ?_) (fun hb => ?_) <;> cbv)
 all_goals (subst hO hr hF; (try simp only [stdO, SS, sa, az] at *); (try simp only [nc] at *); (try simp only [onc] at *))
 all_goals (try simp only [La5.F0] at *)
 all_goals first
  | (show (_ : List DV) = _
     first
      | exact di_eq (lo_ar (by assumption))
      | exact di_eq (lo_no (by assumption)).symm
      | done)
  | exact True.intro
  | (show okOrder _ _ = true; kernel_rfl)
  | done
theorem c_spec_LargeOffset (p n s a : Int) (hp : True) : Ctr Tryz.prog 178 [.agg [.v (.int .i64 p), .v (.int .i64 n), .v (.int .i64 s)], .one (.v (.int .i64 a))] [.one (.v (.int .i64 (loI p n s a)))] := by
 refine ctr_b La5.B tabOk mixed 14 _ [3] [.tmp 4] Tryz.func178 rfl rfl rfl rfl rfl ?_
 intro O r (F : La5.Fns) hO hr (hF : F = La5.F0)
 cbv
 repeat' first | refine And.intro ?_ ?_ | (refine cbi (fun hb => ?_) (fun hb => ?_) <;> cbv)
 all_goals (subst hO hr hF; (try simp only [stdO, SS, sa, az] at *); (try simp only [nc] at *); (try simp only [onc] at *))
 all_goals (try simp only [La5.F0] at *)
 all_goals first
  | (show (_ : List DV) = _
     first
      | exact di_eq (lo_ar (by assumption))
      | exact di_eq (lo_no (by assumption)).symm
      | done)
  | exact True.intro
  | (show okOrder _ _ = true; kernel_rfl)
  | done
end Go.V