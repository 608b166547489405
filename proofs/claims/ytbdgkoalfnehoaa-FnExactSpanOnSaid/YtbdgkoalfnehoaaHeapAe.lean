/-
  Contracts of functions, by evaluation of conditions on their code.
-/
import Derived.Test.YtbdgkoalfnehoaaS5
import Derived.Test.YtbdgkoalfnehoaaH9
import Derived.Test.YtbdgkoalfnehoaaLawHDe

set_option linter.all false
namespace Go.V
open Go Go.Proofs
set_option maxRecDepth 1000000
set_option maxHeartbeats 8000000
namespace R0
structure Fns where
  no : Unit
def F0 : Fns := ⟨()⟩
def ct : Fns → CT := noC
theorem ct_ok : CTok Try.prog (ct F0) := noC_ok
def mt : Fns → MT := noMT
theorem mt_ok : MTok Try.prog (mt F0) := noMT_ok
def pt : Fns → PT := noPT
theorem pt_ok : PTok Try.prog (pt F0) := noPT_ok
end R0
theorem c_impl_between (x a b : Int) (hp : True) : Ctr Try.prog 56 [.one (.v (.int .i64 x)), .one (.v (.int .i64 a)), .one (.v (.int .i64 b))] [.one (.v (.bool (inR x a b)))] := by
  refine ctr_of (ctF := R0.ct) (mtF := R0.mt) (ptF := R0.pt) (F0 := R0.F0) tabOk R0.ct_ok R0.mt_ok R0.pt_ok mixed 15 _ [4] [.tmp 6] Try.func56 rfl rfl rfl rfl rfl ?_
  intro O r F hO hr hF
  cbv
  repeat' first | refine And.intro ?_ ?_ | (refine caseB_intro (fun hb => ?_) (fun hb => ?_) <;> cbv)
  all_goals ((try subst hos); subst hO hr hF; (try simp only [stdO, SS, sub_all, ad_zero] at *); (try simp only [ncast] at *); (try simp only [Int.ofNat_eq_natCast] at *))
  all_goals refine db_eq ?_
  · exact b_iff (by rw [inR_t]; simp only [SS]; omega)
  · exact (inR_f.2 (by omega)).symm
theorem c_spec_l01In (x a b : Int) (hp : True) : Ctr Try.prog 54 [.one (.v (.int .i64 x)), .one (.v (.int .i64 a)), .one (.v (.int .i64 b))] [.one (.v (.bool (inR x a b)))] := by
  refine ctr_of (ctF := R0.ct) (mtF := R0.mt) (ptF := R0.pt) (F0 := R0.F0) tabOk R0.ct_ok R0.mt_ok R0.pt_ok mixed 15 _ [4] [.tmp 6] Try.func54 rfl rfl rfl rfl rfl ?_
  intro O r F hO hr hF
  cbv
  repeat' first | refine And.intro ?_ ?_ | (refine caseB_intro (fun hb => ?_) (fun hb => ?_) <;> cbv)
  all_goals ((try subst hos); subst hO hr hF; (try simp only [stdO, SS, sub_all, ad_zero] at *); (try simp only [ncast] at *); (try simp only [Int.ofNat_eq_natCast] at *))
  all_goals refine db_eq ?_
  · exact b_iff (by rw [inR_t]; simp only [SS]; omega)
  · exact (inR_f.2 (by omega)).symm
namespace F4
structure Fns where
  inR : Int → Int → Int → Bool
def F0 : Fns := ⟨inR⟩
def ct (F : Fns) : CT := fun f ds => match f, ds with
  | 56, [.one (.v (.int .i64 x)), .one (.v (.int .i64 a)), .one (.v (.int .i64 b))] => some (fun _ => True, [.one (.v (.bool (F.inR x a b)))])
  | 54, [.one (.v (.int .i64 x)), .one (.v (.int .i64 a)), .one (.v (.int .i64 b))] => some (fun _ => True, [.one (.v (.bool (F.inR x a b)))])
  | _, _ => none
theorem ct_ok : CTok Try.prog (ct F0) := by
  intro f ds pre res h hp
  unfold ct at h
  split at h
  · cases h; exact c_impl_between _ _ _ hp
  · cases h; exact c_spec_l01In _ _ _ hp
  · cases h
def mt : Fns → MT := noMT
theorem mt_ok : MTok Try.prog (mt F0) := noMT_ok
def pt : Fns → PT := noPT
theorem pt_ok : PTok Try.prog (pt F0) := noPT_ok
end F4
theorem c_impl_classOk (k : Int) (hp : True) : Ctr Try.prog 108 [.one (.v (.int .i64 k))] [.one (.v (.bool (inR k 0 3)))] := by
  refine ctr_of (ctF := F4.ct) (mtF := F4.mt) (ptF := F4.pt) (F0 := F4.F0) tabOk F4.ct_ok F4.mt_ok F4.pt_ok mixed 5 _ [4] [.tmp 2] Try.func108 rfl rfl rfl rfl rfl ?_
  intro O r F hO hr hF
  cbv
  repeat' first | refine And.intro ?_ ?_ | (refine caseB_intro (fun hb => ?_) (fun hb => ?_) <;> cbv)
  all_goals ((try subst hos); subst hO hr hF; (try simp only [stdO, SS, sub_all, ad_zero] at *); (try simp only [ncast] at *); (try simp only [Int.ofNat_eq_natCast] at *))
  all_goals first
    | trivial
    | exact rfl
    | trace_state
namespace F5
structure Fns where
  inR : Int → Int → Int → Bool
def F0 : Fns := ⟨inR⟩
def ct (F : Fns) : CT := fun f ds => match f, ds with
  | 108, [.one (.v (.int .i64 k))] => some (fun _ => True, [.one (.v (.bool (F.inR k 0 3)))])
  | 54, [.one (.v (.int .i64 x)), .one (.v (.int .i64 a)), .one (.v (.int .i64 b))] => some (fun _ => True, [.one (.v (.bool (F.inR x a b)))])
  | _, _ => none
theorem ct_ok : CTok Try.prog (ct F0) := by
  intro f ds pre res h hp
  unfold ct at h
  split at h
  · cases h; exact c_impl_classOk _ hp
  · cases h; exact c_spec_l01In _ _ _ hp
  · cases h
def mt : Fns → MT := noMT
theorem mt_ok : MTok Try.prog (mt F0) := noMT_ok
def pt : Fns → PT := noPT
theorem pt_ok : PTok Try.prog (pt F0) := noPT_ok
end F5
theorem c_impl_ClassSize (k : Int) (hp : True) : Ctr Try.prog 91 [.one (.v (.int .i64 k))] [.one (.v (.int .i64 (clsSz k)))] := by
  refine ctr_of (ctF := F5.ct) (mtF := F5.mt) (ptF := F5.pt) (F0 := F5.F0) tabOk F5.ct_ok F5.mt_ok F5.pt_ok mixed 8 _ [3] [.tmp 2] Try.func91 rfl rfl rfl rfl rfl ?_
  intro O r F hO hr hF
  cbv
  repeat' first | refine And.intro ?_ ?_ | (refine caseB_intro (fun hb => ?_) (fun hb => ?_) <;> cbv)
  all_goals ((try subst hos); subst hO hr hF; (try simp only [stdO, SS, sub_all, ad_zero] at *); (try simp only [ncast] at *); (try simp only [Int.ofNat_eq_natCast] at *))
  all_goals (try simp only [F5.F0] at *)
  all_goals first
    | trivial
    | exact di_eq (cs_no (by assumption)).symm
    | (refine di_eq ?_; rw [cs_sh (by assumption)])
    | (rw [inR_t] at *; omega)
    | trace_state
theorem c_spec_ClassSize (k : Int) (hp : True) : Ctr Try.prog 89 [.one (.v (.int .i64 k))] [.one (.v (.int .i64 (clsSz k)))] := by
  refine ctr_of (ctF := F5.ct) (mtF := F5.mt) (ptF := F5.pt) (F0 := F5.F0) tabOk F5.ct_ok F5.mt_ok F5.pt_ok mixed 9 _ [3] [.tmp 2] Try.func89 rfl rfl rfl rfl rfl ?_
  intro O r F hO hr hF
  cbv
  repeat' first | refine And.intro ?_ ?_ | (refine caseB_intro (fun hb => ?_) (fun hb => ?_) <;> cbv)
  all_goals ((try subst hos); subst hO hr hF; (try simp only [stdO, SS, sub_all, ad_zero] at *); (try simp only [ncast] at *); (try simp only [Int.ofNat_eq_natCast] at *))
  all_goals (try simp only [F5.F0] at *)
  all_goals (try rw [cs_wr (by assumption)] at *)
  all_goals first
    | trivial
    | exact di_eq (cs_no (by assumption)).symm
    | (refine di_eq ?_; rw [cs_sh (by assumption)])
    | (rw [inR_t] at *; omega)
    | trace_state
namespace F6
structure Fns where
  inR : Int → Int → Int → Bool
  clsSz : Int → Int
def F0 : Fns := ⟨inR, clsSz⟩
def ct (F : Fns) : CT := fun f ds => match f, ds with
  | 56, [.one (.v (.int .i64 x)), .one (.v (.int .i64 a)), .one (.v (.int .i64 b))] => some (fun _ => True, [.one (.v (.bool (F.inR x a b)))])
  | 54, [.one (.v (.int .i64 x)), .one (.v (.int .i64 a)), .one (.v (.int .i64 b))] => some (fun _ => True, [.one (.v (.bool (F.inR x a b)))])
  | 91, [.one (.v (.int .i64 k))] => some (fun _ => True, [.one (.v (.int .i64 (F.clsSz k)))])
  | _, _ => none
theorem ct_ok : CTok Try.prog (ct F0) := by
  intro f ds pre res h hp
  unfold ct at h
  split at h
  · cases h; exact c_impl_between _ _ _ hp
  · cases h; exact c_spec_l01In _ _ _ hp
  · cases h; exact c_impl_ClassSize _ hp
  · cases h
def mt : Fns → MT := noMT
theorem mt_ok : MTok Try.prog (mt F0) := noMT_ok
def pt : Fns → PT := noPT
theorem pt_ok : PTok Try.prog (pt F0) := noPT_ok
end F6
theorem c_impl_ClassOf (s : Int) (hp : True) : Ctr Try.prog 90 [.one (.v (.int .i64 s))] [.one (.v (.int .i64 (clsOf s)))] := by
  refine ctr_of (ctF := F6.ct) (mtF := F6.mt) (ptF := F6.pt) (F0 := F6.F0) tabOk F6.ct_ok F6.mt_ok F6.pt_ok mixed 14 _ [3] [.tmp 2] Try.func90 rfl rfl rfl rfl rfl ?_
  intro O r F hO hr hF
  cbv
  repeat' first | refine And.intro ?_ ?_ | (refine caseB_intro (fun hb => ?_) (fun hb => ?_) <;> cbv) | (refine ⟨[0, 3], [], Int, fun k => [.reg 3 (.one (.v (.int .i64 k)))], fun k => 0 ≤ k ∧ k ≤ 3 ∧ (k = 0 ∨ clsSz (k - 1) < s), fun k => (3 - k).toNat, ⟨0, ?_, ?_⟩, ?_⟩; rotate_left; (focus (cbv; done)); intro k hk; replace hk : 0 ≤ k ∧ k ≤ 3 ∧ (k = 0 ∨ clsSz (k - 1) < s) := hk; obtain ⟨k0, k1, k2⟩ := hk; cbv) | (refine loop_step (O.ar .add .i64 k 1) ?_ ?_ ?_; rotate_left 2; focus (cbv; done))
  all_goals ((try subst hos); subst hO hr hF; (try simp only [stdO, SS, sub_all, ad_zero] at *); (try simp only [ncast] at *); (try simp only [Int.ofNat_eq_natCast] at *))
  all_goals (try simp only [F6.F0] at *)
  all_goals (try simp only [inR_t, inR_f] at *)
  all_goals (try rw [up64 (by omega) (by omega)])
  all_goals first
    | trivial
    | omega
    | exact cs_up (by omega) (by assumption) (by omega)
    | (have := cs_up (k := k) (s := s) (by omega) (by assumption) (by omega); omega)
    | exact di_eq (cl_no (by omega)).symm
    | exact di_eq (cl_yes (by omega) (by assumption) (by omega) (by assumption)).symm
    | exact .inl trivial
    | exact .inl rfl
    | (rw [show k + 1 - 1 = k by omega]; exact .inr (by assumption))
    | trace_state
theorem c_spec_ClassOf (s : Int) (hp : True) : Ctr Try.prog 88 [.one (.v (.int .i64 s))] [.one (.v (.int .i64 (clsOf s)))] := by
  refine ctr_of (ctF := F6.ct) (mtF := F6.mt) (ptF := F6.pt) (F0 := F6.F0) tabOk F6.ct_ok F6.mt_ok F6.pt_ok mixed 15 _ [3] [.tmp 2] Try.func88 rfl rfl rfl rfl rfl ?_
  intro O r F hO hr hF
  cbv
  repeat' first | refine And.intro ?_ ?_ | (refine caseB_intro (fun hb => ?_) (fun hb => ?_) <;> cbv) | (refine ⟨[0, 3], [], Int, fun k => [.reg 3 (.one (.v (.int .i64 k)))], fun k => 0 ≤ k ∧ k ≤ 3 ∧ (k = 0 ∨ clsSz (k - 1) < s), fun k => (3 - k).toNat, ⟨0, ?_, ?_⟩, ?_⟩; rotate_left; (focus (cbv; done)); intro k hk; replace hk : 0 ≤ k ∧ k ≤ 3 ∧ (k = 0 ∨ clsSz (k - 1) < s) := hk; obtain ⟨k0, k1, k2⟩ := hk; cbv) | (refine loop_step (O.ar .add .i64 k 1) ?_ ?_ ?_; rotate_left 2; focus (cbv; done))
  all_goals ((try subst hos); subst hO hr hF; (try simp only [stdO, SS, sub_all, ad_zero] at *); (try simp only [ncast] at *); (try simp only [Int.ofNat_eq_natCast] at *))
  all_goals (try simp only [F6.F0] at *)
  all_goals (try rw [cs_wr (k := k) (by rw [inR_t]; omega)] at *)
  all_goals (try rw [cs_sh (k := k) (by rw [inR_t]; omega)] at *)
  all_goals (try simp only [inR_t, inR_f] at *)
  all_goals (try rw [up64 (by omega) (by omega)])
  all_goals first
    | trivial
    | omega
    | exact cs_up (by omega) (by assumption) (by omega)
    | (have := cs_up (k := k) (s := s) (by omega) (by assumption) (by omega); omega)
    | exact di_eq (cl_no (by omega)).symm
    | exact di_eq (cl_yes (by omega) (by assumption) (by omega) (by assumption)).symm
    | exact .inl trivial
    | exact .inl rfl
    | (rw [show k + 1 - 1 = k by omega]; exact .inr (by assumption))
    | trace_state
theorem c_impl_LiveSizes (a0 : List (List L)) (a1 : List (List L)) (a2 : List (List L)) (a3 : Int) (a4 : List (List L)) (a5 : List (List L)) (a6 : List (List L)) (a7 : List (List L)) (a8 : List (List L)) (a9 : List (List L)) (a10 : List (List L)) (a11 : List (List L)) (a12 : Int) (a13 : List (List L)) (a14 : Int) (a15 : Int) (a16 : Int) (a17 : Int) (a18 : Bool) (a19 : Int) (a20 : Int) (a21 : List (List L)) (a22 : Int) (a23 : Int) (hp : Rw [tI, tI, tI, tI] a8 ∧ a8.length ≤ 1099511627776) : Ctr Try.prog 11 [.agg [.s 1 a0, .s 1 a1, .s 2 a2, .v (.int .i64 a3), .s 1 a4, .s 2 a5, .s 3 a6, .s 3 a7, .s 4 a8, .s 1 a9, .s 1 a10, .s 1 a11, .v (.int .i64 a12), .s 3 a13, .v (.int .i64 a14), .v (.int .i64 a15), .v (.int .i64 a16), .v (.int .i64 a17), .v (.bool a18), .v (.int .i64 a19), .v (.int .i64 a20), .s 1 a21, .v (.int .i64 a22), .v (.int .i64 a23)]] [.one (.v (.int .i64 (lsI a8)))] := by
  obtain ⟨hw, hn⟩ := hp
  refine ctr_of (ctF := R0.ct) (mtF := R0.mt) (ptF := R0.pt) (F0 := R0.F0) tabOk R0.ct_ok R0.mt_ok R0.pt_ok mixed 19 _ [3] [.tmp 2] Try.func11 rfl rfl rfl rfl rfl ?_
  intro O r F hO hr hF
  cbv
  repeat' first | refine And.intro ?_ ?_ | (refine caseB_intro (fun hb => ?_) (fun hb => ?_) <;> cbv) | (refine ⟨[3, 7, 8, 9], [], Int × Int, fun s_ => match s_ with | (i, n) => [.reg 9 (.one (.v (.int .i64 i))), .reg 3 (.one (.v (.int .i64 n)))], fun s_ => match s_ with | (i, n) => 0 ≤ i ∧ i ≤ (a8.length : Int) ∧ n = sumN (szF a8) i.toNat, fun s_ => match s_ with | (i, n) => a8.length - i.toNat, ⟨(0, 0), ?_, ?_⟩, ?_⟩; rotate_left; (focus (cbv; done)); intro s_ hi; obtain ⟨i, n⟩ := s_; replace hi : 0 ≤ i ∧ i ≤ (a8.length : Int) ∧ n = sumN (szF a8) i.toNat := hi; obtain ⟨i0, i1, i2⟩ := hi; cbv) | (refine loop_step (O.ar .add .i64 i 1, O.ar .add .i64 n (O.gi a8 i 2)) ?_ ?_ ?_; rotate_left 2; focus (cbv; done))
  all_goals ((try subst hos); subst hO hr hF; (try simp only [stdO, SS, sub_all, ad_zero] at *); (try simp only [ncast] at *); (try simp only [Int.ofNat_eq_natCast] at *))
  all_goals (try simp only [R0.F0] at *)
  all_goals try rw [up64 (by omega) (by omega)]
  all_goals first
    | (show (_ : List DV) = _
       first
         | exact di_eq (by rw [i2, show i.toNat = a8.length by omega]; rfl)
         | done)
    | (show (_ : Int) = _
       first
         | (rw [sumN_up i0, ← i2]; rfl)
         | exact (rfl : (0 : Int) = sumN (szF a8) 0)
         | done)
    | omega
    | (refine ⟨by omega, by omega, Eq.trans (Rw.eta (fs := _) (by (first | assumption | exact Rw.sub (by first | assumption | exact Rw.sub (by assumption) (by omega) rfl) (by omega) rfl)) (by omega) (by omega)) ?_⟩; rfl)
    | trivial
    | exact ⟨trivial, trivial⟩
    | trace_state
theorem c_spec_LiveSizes (a0 : List (List L)) (a1 : List (List L)) (a2 : List (List L)) (a3 : Int) (a4 : List (List L)) (a5 : List (List L)) (a6 : List (List L)) (a7 : List (List L)) (a8 : List (List L)) (a9 : List (List L)) (a10 : List (List L)) (a11 : List (List L)) (a12 : Int) (a13 : List (List L)) (a14 : Int) (a15 : Int) (a16 : Int) (a17 : Int) (a18 : Bool) (a19 : Int) (a20 : Int) (a21 : List (List L)) (a22 : Int) (a23 : Int) (hp : Rw [tI, tI, tI, tI] a8 ∧ a8.length ≤ 1099511627776) : Ctr Try.prog 9 [.agg [.s 1 a0, .s 1 a1, .s 2 a2, .v (.int .i64 a3), .s 1 a4, .s 2 a5, .s 3 a6, .s 3 a7, .s 4 a8, .s 1 a9, .s 1 a10, .s 1 a11, .v (.int .i64 a12), .s 3 a13, .v (.int .i64 a14), .v (.int .i64 a15), .v (.int .i64 a16), .v (.int .i64 a17), .v (.bool a18), .v (.int .i64 a19), .v (.int .i64 a20), .s 1 a21, .v (.int .i64 a22), .v (.int .i64 a23)]] [.one (.v (.int .i64 (lsI a8)))] := by
  obtain ⟨hw, hn⟩ := hp
  refine ctr_of (ctF := R0.ct) (mtF := R0.mt) (ptF := R0.pt) (F0 := R0.F0) tabOk R0.ct_ok R0.mt_ok R0.pt_ok mixed 21 _ [3] [.tmp 2] Try.func9 rfl rfl rfl rfl rfl ?_
  intro O r F hO hr hF
  cbv
  repeat' first | refine And.intro ?_ ?_ | (refine caseB_intro (fun hb => ?_) (fun hb => ?_) <;> cbv) | (refine ⟨[1, 3, 4], [1], Int × Int, fun s_ => match s_ with | (i, n) => [.reg 4 (.one (.v (.int .i64 i))), .reg 3 (.one (.v (.int .i64 n)))], fun s_ => match s_ with | (i, n) => 0 ≤ i ∧ i ≤ (a8.length : Int) ∧ n = sumN (szF a8) i.toNat, fun s_ => match s_ with | (i, n) => a8.length - i.toNat, ⟨(0, 0), ?_, ?_⟩, ?_⟩; rotate_left; (focus (cbv; done)); intro s_ hi; obtain ⟨i, n⟩ := s_; replace hi : 0 ≤ i ∧ i ≤ (a8.length : Int) ∧ n = sumN (szF a8) i.toNat := hi; obtain ⟨i0, i1, i2⟩ := hi; cbv) | (refine loop_step (O.ar .add .i64 i 1, O.ar .add .i64 n (O.gi a8 i 2)) ?_ ?_ ?_; rotate_left 2; focus (cbv; done))
  all_goals ((try subst hos); subst hO hr hF; (try simp only [stdO, SS, sub_all, ad_zero] at *); (try simp only [ncast] at *); (try simp only [Int.ofNat_eq_natCast] at *))
  all_goals (try simp only [R0.F0] at *)
  all_goals try rw [up64 (by omega) (by omega)]
  all_goals first
    | (show (_ : List DV) = _
       first
         | exact di_eq (by rw [i2, show i.toNat = a8.length by omega]; rfl)
         | done)
    | (show (_ : Int) = _
       first
         | (rw [sumN_up i0, ← i2]; rfl)
         | exact (rfl : (0 : Int) = sumN (szF a8) 0)
         | done)
    | omega
    | (refine ⟨by omega, by omega, Eq.trans (Rw.eta (fs := _) (by (first | assumption | exact Rw.sub (by first | assumption | exact Rw.sub (by assumption) (by omega) rfl) (by omega) rfl)) (by omega) (by omega)) ?_⟩; rfl)
    | trivial
    | exact ⟨trivial, trivial⟩
    | trace_state
namespace W1
structure Fns where
  clsOf : Int → Int
  clsSz : Int → Int
def F0 : Fns := ⟨clsOf, clsSz⟩
def ct (F : Fns) : CT := fun f ds => match f, ds with
  | 90, [.one (.v (.int .i64 s))] => some (fun _ => True, [.one (.v (.int .i64 (F.clsOf s)))])
  | 91, [.one (.v (.int .i64 k))] => some (fun _ => True, [.one (.v (.int .i64 (F.clsSz k)))])
  | 88, [.one (.v (.int .i64 s))] => some (fun _ => True, [.one (.v (.int .i64 (F.clsOf s)))])
  | 89, [.one (.v (.int .i64 k))] => some (fun _ => True, [.one (.v (.int .i64 (F.clsSz k)))])
  | _, _ => none
theorem ct_ok : CTok Try.prog (ct F0) := by
  intro f ds pre res h hp
  unfold ct at h
  split at h
  · cases h; exact c_impl_ClassOf _ hp
  · cases h; exact c_impl_ClassSize _ hp
  · cases h; exact c_spec_ClassOf _ hp
  · cases h; exact c_spec_ClassSize _ hp
  · cases h
def mt : Fns → MT := noMT
theorem mt_ok : MTok Try.prog (mt F0) := noMT_ok
def pt : Fns → PT := noPT
theorem pt_ok : PTok Try.prog (pt F0) := noPT_ok
end W1
theorem c_impl_Waste (s : Int) (hp : True) : Ctr Try.prog 53 [.one (.v (.int .i64 s))] [.one (.v (.int .i64 (waI s)))] := by
  refine ctr_of (ctF := W1.ct) (mtF := W1.mt) (ptF := W1.pt) (F0 := W1.F0) tabOk W1.ct_ok W1.mt_ok W1.pt_ok mixed 12 _ [3] [.tmp 2] Try.func53 rfl rfl rfl rfl rfl ?_
  intro O r F hO hr hF
  cbv
  repeat' first | refine And.intro ?_ ?_ | (refine caseB_intro (fun hb => ?_) (fun hb => ?_) <;> cbv)
  all_goals ((try subst hos); subst hO hr hF; (try simp only [stdO, SS, sub_all, ad_zero] at *); (try simp only [ncast] at *); (try simp only [Int.ofNat_eq_natCast] at *))
  all_goals (try simp only [W1.F0] at *)
  all_goals first
    | (show (_ : List DV) = _
       first
         | exact di_eq (wa_no (by omega)).symm
         | exact di_eq (wa_yes (by omega)).symm
         | done)
    | trivial
    | trace_state
theorem c_spec_Waste (s : Int) (hp : True) : Ctr Try.prog 52 [.one (.v (.int .i64 s))] [.one (.v (.int .i64 (waI s)))] := by
  refine ctr_of (ctF := W1.ct) (mtF := W1.mt) (ptF := W1.pt) (F0 := W1.F0) tabOk W1.ct_ok W1.mt_ok W1.pt_ok mixed 12 _ [3] [.tmp 2] Try.func52 rfl rfl rfl rfl rfl ?_
  intro O r F hO hr hF
  cbv
  repeat' first | refine And.intro ?_ ?_ | (refine caseB_intro (fun hb => ?_) (fun hb => ?_) <;> cbv)
  all_goals ((try subst hos); subst hO hr hF; (try simp only [stdO, SS, sub_all, ad_zero] at *); (try simp only [ncast] at *); (try simp only [Int.ofNat_eq_natCast] at *))
  all_goals (try simp only [W1.F0] at *)
  all_goals first
    | (show (_ : List DV) = _
       first
         | exact di_eq (wa_no (by omega)).symm
         | exact di_eq (wa_yes (by omega)).symm
         | done)
    | trivial
    | trace_state
namespace W2
structure Fns where
  waI : Int → Int
def F0 : Fns := ⟨waI⟩
def ct (F : Fns) : CT := fun f ds => match f, ds with
  | 53, [.one (.v (.int .i64 s))] => some (fun _ => True, [.one (.v (.int .i64 (F.waI s)))])
  | 52, [.one (.v (.int .i64 s))] => some (fun _ => True, [.one (.v (.int .i64 (F.waI s)))])
  | _, _ => none
theorem ct_ok : CTok Try.prog (ct F0) := by
  intro f ds pre res h hp
  unfold ct at h
  split at h
  · cases h; exact c_impl_Waste _ hp
  · cases h; exact c_spec_Waste _ hp
  · cases h
def mt : Fns → MT := noMT
theorem mt_ok : MTok Try.prog (mt F0) := noMT_ok
def pt : Fns → PT := noPT
theorem pt_ok : PTok Try.prog (pt F0) := noPT_ok
end W2
theorem c_impl_WasteCells (a0 : List (List L)) (a1 : List (List L)) (a2 : List (List L)) (a3 : Int) (a4 : List (List L)) (a5 : List (List L)) (a6 : List (List L)) (a7 : List (List L)) (a8 : List (List L)) (a9 : List (List L)) (a10 : List (List L)) (a11 : List (List L)) (a12 : Int) (a13 : List (List L)) (a14 : Int) (a15 : Int) (a16 : Int) (a17 : Int) (a18 : Bool) (a19 : Int) (a20 : Int) (a21 : List (List L)) (a22 : Int) (a23 : Int) (hp : Rw [tI, tI, tI, tI] a8 ∧ a8.length ≤ 1099511627776) : Ctr Try.prog 18 [.agg [.s 1 a0, .s 1 a1, .s 2 a2, .v (.int .i64 a3), .s 1 a4, .s 2 a5, .s 3 a6, .s 3 a7, .s 4 a8, .s 1 a9, .s 1 a10, .s 1 a11, .v (.int .i64 a12), .s 3 a13, .v (.int .i64 a14), .v (.int .i64 a15), .v (.int .i64 a16), .v (.int .i64 a17), .v (.bool a18), .v (.int .i64 a19), .v (.int .i64 a20), .s 1 a21, .v (.int .i64 a22), .v (.int .i64 a23)]] [.one (.v (.int .i64 (wsI a8)))] := by
  obtain ⟨hw, hn⟩ := hp
  refine ctr_of (ctF := W2.ct) (mtF := W2.mt) (ptF := W2.pt) (F0 := W2.F0) tabOk W2.ct_ok W2.mt_ok W2.pt_ok mixed 20 _ [3] [.tmp 2] Try.func18 rfl rfl rfl rfl rfl ?_
  intro O r F hO hr hF
  cbv
  repeat' first | refine And.intro ?_ ?_ | (refine caseB_intro (fun hb => ?_) (fun hb => ?_) <;> cbv) | (refine ⟨[3, 7, 8, 9], [], Int × Int, fun s_ => match s_ with | (i, n) => [.reg 9 (.one (.v (.int .i64 i))), .reg 3 (.one (.v (.int .i64 n)))], fun s_ => match s_ with | (i, n) => 0 ≤ i ∧ i ≤ (a8.length : Int) ∧ n = sumN (waF a8) i.toNat, fun s_ => match s_ with | (i, n) => a8.length - i.toNat, ⟨(0, 0), ?_, ?_⟩, ?_⟩; rotate_left; (focus (cbv; done)); intro s_ hi; obtain ⟨i, n⟩ := s_; replace hi : 0 ≤ i ∧ i ≤ (a8.length : Int) ∧ n = sumN (waF a8) i.toNat := hi; obtain ⟨i0, i1, i2⟩ := hi; cbv) | (refine loop_step (O.ar .add .i64 i 1, O.ar .add .i64 n (F.waI (O.gi a8 i 2))) ?_ ?_ ?_; rotate_left 2; focus (cbv; done))
  all_goals ((try subst hos); subst hO hr hF; (try simp only [stdO, SS, sub_all, ad_zero] at *); (try simp only [ncast] at *); (try simp only [Int.ofNat_eq_natCast] at *))
  all_goals (try simp only [W2.F0] at *)
  all_goals try rw [up64 (by omega) (by omega)]
  all_goals first
    | (show (_ : List DV) = _
       first
         | exact di_eq (by rw [i2, show i.toNat = a8.length by omega]; rfl)
         | done)
    | (show (_ : Int) = _
       first
         | (rw [sumN_up i0, ← i2]; rfl)
         | exact (rfl : (0 : Int) = sumN (waF a8) 0)
         | done)
    | omega
    | (refine ⟨by omega, by omega, Eq.trans (Rw.eta (fs := _) (by (first | assumption | exact Rw.sub (by first | assumption | exact Rw.sub (by assumption) (by omega) rfl) (by omega) rfl)) (by omega) (by omega)) ?_⟩; rfl)
    | trivial
    | exact ⟨trivial, trivial⟩
    | trace_state
theorem c_spec_WasteCells (a0 : List (List L)) (a1 : List (List L)) (a2 : List (List L)) (a3 : Int) (a4 : List (List L)) (a5 : List (List L)) (a6 : List (List L)) (a7 : List (List L)) (a8 : List (List L)) (a9 : List (List L)) (a10 : List (List L)) (a11 : List (List L)) (a12 : Int) (a13 : List (List L)) (a14 : Int) (a15 : Int) (a16 : Int) (a17 : Int) (a18 : Bool) (a19 : Int) (a20 : Int) (a21 : List (List L)) (a22 : Int) (a23 : Int) (hp : Rw [tI, tI, tI, tI] a8 ∧ a8.length ≤ 1099511627776) : Ctr Try.prog 17 [.agg [.s 1 a0, .s 1 a1, .s 2 a2, .v (.int .i64 a3), .s 1 a4, .s 2 a5, .s 3 a6, .s 3 a7, .s 4 a8, .s 1 a9, .s 1 a10, .s 1 a11, .v (.int .i64 a12), .s 3 a13, .v (.int .i64 a14), .v (.int .i64 a15), .v (.int .i64 a16), .v (.int .i64 a17), .v (.bool a18), .v (.int .i64 a19), .v (.int .i64 a20), .s 1 a21, .v (.int .i64 a22), .v (.int .i64 a23)]] [.one (.v (.int .i64 (wsI a8)))] := by
  obtain ⟨hw, hn⟩ := hp
  refine ctr_of (ctF := W2.ct) (mtF := W2.mt) (ptF := W2.pt) (F0 := W2.F0) tabOk W2.ct_ok W2.mt_ok W2.pt_ok mixed 22 _ [3] [.tmp 2] Try.func17 rfl rfl rfl rfl rfl ?_
  intro O r F hO hr hF
  cbv
  repeat' first | refine And.intro ?_ ?_ | (refine caseB_intro (fun hb => ?_) (fun hb => ?_) <;> cbv) | (refine ⟨[1, 3, 4], [1], Int × Int, fun s_ => match s_ with | (i, n) => [.reg 4 (.one (.v (.int .i64 i))), .reg 3 (.one (.v (.int .i64 n)))], fun s_ => match s_ with | (i, n) => 0 ≤ i ∧ i ≤ (a8.length : Int) ∧ n = sumN (waF a8) i.toNat, fun s_ => match s_ with | (i, n) => a8.length - i.toNat, ⟨(0, 0), ?_, ?_⟩, ?_⟩; rotate_left; (focus (cbv; done)); intro s_ hi; obtain ⟨i, n⟩ := s_; replace hi : 0 ≤ i ∧ i ≤ (a8.length : Int) ∧ n = sumN (waF a8) i.toNat := hi; obtain ⟨i0, i1, i2⟩ := hi; cbv) | (refine loop_step (O.ar .add .i64 i 1, O.ar .add .i64 n (F.waI (O.gi a8 i 2))) ?_ ?_ ?_; rotate_left 2; focus (cbv; done))
  all_goals ((try subst hos); subst hO hr hF; (try simp only [stdO, SS, sub_all, ad_zero] at *); (try simp only [ncast] at *); (try simp only [Int.ofNat_eq_natCast] at *))
  all_goals (try simp only [W2.F0] at *)
  all_goals try rw [up64 (by omega) (by omega)]
  all_goals first
    | (show (_ : List DV) = _
       first
         | exact di_eq (by rw [i2, show i.toNat = a8.length by omega]; rfl)
         | done)
    | (show (_ : Int) = _
       first
         | (rw [sumN_up i0, ← i2]; rfl)
         | exact (rfl : (0 : Int) = sumN (waF a8) 0)
         | done)
    | omega
    | (refine ⟨by omega, by omega, Eq.trans (Rw.eta (fs := _) (by (first | assumption | exact Rw.sub (by first | assumption | exact Rw.sub (by assumption) (by omega) rfl) (by omega) rfl)) (by omega) (by omega)) ?_⟩; rfl)
    | trivial
    | exact ⟨trivial, trivial⟩
    | trace_state
theorem c_impl_ObjAt_1 (d0 d1 d2 d3 : Int) (ad : Int) (hp : True) : Ctr Try.prog 49 [.agg [.v (.int .i64 d0), .v (.int .i64 d1), .v (.int .i64 d2), .v (.int .i64 d3)], .ptr [.v (.int .i64 ad)]] [.one (.v (.bool (eqB d1 ad)))] := by
  refine ctr_of (ctF := R0.ct) (mtF := R0.mt) (ptF := R0.pt) (F0 := R0.F0) tabOk R0.ct_ok R0.mt_ok R0.pt_ok mixed 8 _ [4] [.tmp 3] Try.func49 rfl rfl rfl rfl rfl ?_
  intro O r F hO hr hF
  cbv
  repeat' first | refine And.intro ?_ ?_ | (refine caseB_intro (fun hb => ?_) (fun hb => ?_) <;> cbv)
  all_goals ((try subst hos); subst hO hr hF; (try simp only [stdO, SS, sub_all, ad_zero] at *); (try simp only [ncast] at *); (try simp only [Int.ofNat_eq_natCast] at *))
  all_goals first
    | (show (_ : List DV) = _
       first
         | exact db_eq (eqB_t (by assumption)).symm
         | exact db_eq (eqB_f (by assumption)).symm
         | exact db_eq (b_iff (by unfold eqB; simp only [SS, decide_eq_true_eq]))
         | done)
    | trivial
    | trace_state
theorem c_impl_SpanOn_1 (d0 d1 d2 : Int) (pg : Int) (hp : True) : Ctr Try.prog 51 [.agg [.v (.int .i64 d0), .v (.int .i64 d1), .v (.int .i64 d2)], .ptr [.v (.int .i64 pg)]] [.one (.v (.bool (eqB d0 pg)))] := by
  refine ctr_of (ctF := R0.ct) (mtF := R0.mt) (ptF := R0.pt) (F0 := R0.F0) tabOk R0.ct_ok R0.mt_ok R0.pt_ok mixed 8 _ [4] [.tmp 3] Try.func51 rfl rfl rfl rfl rfl ?_
  intro O r F hO hr hF
  cbv
  repeat' first | refine And.intro ?_ ?_ | (refine caseB_intro (fun hb => ?_) (fun hb => ?_) <;> cbv)
  all_goals ((try subst hos); subst hO hr hF; (try simp only [stdO, SS, sub_all, ad_zero] at *); (try simp only [ncast] at *); (try simp only [Int.ofNat_eq_natCast] at *))
  all_goals first
    | (show (_ : List DV) = _
       first
         | exact db_eq (eqB_t (by assumption)).symm
         | exact db_eq (eqB_f (by assumption)).symm
         | exact db_eq (b_iff (by unfold eqB; simp only [SS, decide_eq_true_eq]))
         | done)
    | trivial
    | trace_state
namespace W3
structure Fns where
  eqB : Int → Int → Bool
def F0 : Fns := ⟨eqB⟩
def ct (F : Fns) : CT := fun f ds => match f, ds with
  | 49, [.agg [.v (.int .i64 d0), .v (.int .i64 d1), .v (.int .i64 d2), .v (.int .i64 d3)], .ptr [.v (.int .i64 ad)]] => some (fun _ => True, [.one (.v (.bool (F.eqB d1 ad)))])
  | 51, [.agg [.v (.int .i64 d0), .v (.int .i64 d1), .v (.int .i64 d2)], .ptr [.v (.int .i64 pg)]] => some (fun _ => True, [.one (.v (.bool (F.eqB d0 pg)))])
  | _, _ => none
theorem ct_ok : CTok Try.prog (ct F0) := by
  intro f ds pre res h hp
  unfold ct at h
  split at h
  · cases h; exact c_impl_ObjAt_1 _ _ _ _ _ hp
  · cases h; exact c_impl_SpanOn_1 _ _ _ _ hp
  · cases h
def mt : Fns → MT := noMT
theorem mt_ok : MTok Try.prog (mt F0) := noMT_ok
def pt : Fns → PT := noPT
theorem pt_ok : PTok Try.prog (pt F0) := noPT_ok
end W3
theorem c_slices_IndexFunc_loop_example_g00978_impl_Obj_loop_example_g00978_impl_Obj (os : List (List L)) (id : Int) (hp : Rw [tI, tI, tI, tI] os ∧ os.length ≤ 1099511627776) : Ctr Try.prog 48 [.one (.s 4 os), .fn 49 [[.v (.int .i64 id)]]] [.one (.v (.int .i64 (obI os id)))] := by
  obtain ⟨hw, hn⟩ := hp
  refine ctr_of (ctF := W3.ct) (mtF := W3.mt) (ptF := W3.pt) (F0 := W3.F0) tabOk W3.ct_ok W3.mt_ok W3.pt_ok mixed 19 _ [3] [.tmp 4] Try.func48 rfl rfl rfl rfl rfl ?_
  intro O r F hO hr hF
  cbv
  repeat' first | refine And.intro ?_ ?_ | (refine caseB_intro (fun hb => ?_) (fun hb => ?_) <;> cbv) | (refine ⟨[0, 1, 7, 8], [0], Int, fun i => [.reg 8 (.one (.v (.int .i64 i)))], fun i => 0 ≤ i ∧ i ≤ ((os.length : Nat) : Int) ∧ upto (notB (isOb os id)) i, fun i => (os.length) - i.toNat, ⟨0, ?_, ?_⟩, ?_⟩; rotate_left; (focus (cbv; done)); intro i hi; replace hi : 0 ≤ i ∧ i ≤ ((os.length : Nat) : Int) ∧ upto (notB (isOb os id)) i := hi; obtain ⟨i0, i1, i2⟩ := hi; cbv) | (refine loop_step (O.ar .add .i64 i 1) ?_ ?_ ?_; rotate_left 2; focus (cbv; done))
  all_goals ((try subst hos); subst hO hr hF; (try simp only [stdO, SS, sub_all, ad_zero] at *); (try simp only [ncast] at *); (try simp only [Int.ofNat_eq_natCast] at *))
  all_goals (try simp only [W3.F0] at *)
  all_goals try rw [up64 (by omega) (by omega)]
  all_goals first
    | (show (_ : List DV) = _
       first
         | exact di_eq (first_at i2 i0 (by assumption) (show isOb os id i = true from by assumption)).symm
         | exact di_eq (first_at i2 i0 (by assumption) (show isOb os id i = true from eqB_t (by assumption))).symm
         | exact di_eq (first_no i2 (by assumption)).symm
         | done)
    | omega
    | (refine ⟨by omega, by omega, Eq.trans (Rw.eta (fs := _) (by (first | assumption | exact Rw.sub (by first | assumption | exact Rw.sub (by assumption) (by omega) rfl) (by omega) rfl)) (by omega) (by omega)) ?_⟩; rfl)
    | (show (lk _ _).isSome = true; kernel_rfl)
    | exact upto_z
    | exact upto_s i2 (notB_f (show isOb os id i = false from by assumption))
    | exact upto_s i2 (notB_f (show isOb os id i = false from eqB_f (by assumption)))
    | exact ⟨trivial, trivial⟩
    | trivial
    | trace_state
theorem c_slices_IndexFunc_loop_example_g00978_impl_Span_loop_example_g00978_impl_Span (os : List (List L)) (id : Int) (hp : Rw [tI, tI, tI] os ∧ os.length ≤ 1099511627776) : Ctr Try.prog 50 [.one (.s 3 os), .fn 51 [[.v (.int .i64 id)]]] [.one (.v (.int .i64 (spI os id)))] := by
  obtain ⟨hw, hn⟩ := hp
  refine ctr_of (ctF := W3.ct) (mtF := W3.mt) (ptF := W3.pt) (F0 := W3.F0) tabOk W3.ct_ok W3.mt_ok W3.pt_ok mixed 19 _ [3] [.tmp 4] Try.func50 rfl rfl rfl rfl rfl ?_
  intro O r F hO hr hF
  cbv
  repeat' first | refine And.intro ?_ ?_ | (refine caseB_intro (fun hb => ?_) (fun hb => ?_) <;> cbv) | (refine ⟨[0, 1, 7, 8], [0], Int, fun i => [.reg 8 (.one (.v (.int .i64 i)))], fun i => 0 ≤ i ∧ i ≤ ((os.length : Nat) : Int) ∧ upto (notB (isSp os id)) i, fun i => (os.length) - i.toNat, ⟨0, ?_, ?_⟩, ?_⟩; rotate_left; (focus (cbv; done)); intro i hi; replace hi : 0 ≤ i ∧ i ≤ ((os.length : Nat) : Int) ∧ upto (notB (isSp os id)) i := hi; obtain ⟨i0, i1, i2⟩ := hi; cbv) | (refine loop_step (O.ar .add .i64 i 1) ?_ ?_ ?_; rotate_left 2; focus (cbv; done))
  all_goals ((try subst hos); subst hO hr hF; (try simp only [stdO, SS, sub_all, ad_zero] at *); (try simp only [ncast] at *); (try simp only [Int.ofNat_eq_natCast] at *))
  all_goals (try simp only [W3.F0] at *)
  all_goals try rw [up64 (by omega) (by omega)]
  all_goals first
    | (show (_ : List DV) = _
       first
         | exact di_eq (first_at i2 i0 (by assumption) (show isSp os id i = true from by assumption)).symm
         | exact di_eq (first_at i2 i0 (by assumption) (show isSp os id i = true from eqB_t (by assumption))).symm
         | exact di_eq (first_no i2 (by assumption)).symm
         | done)
    | omega
    | (refine ⟨by omega, by omega, Eq.trans (Rw.eta (fs := _) (by (first | assumption | exact Rw.sub (by first | assumption | exact Rw.sub (by assumption) (by omega) rfl) (by omega) rfl)) (by omega) (by omega)) ?_⟩; rfl)
    | (show (lk _ _).isSome = true; kernel_rfl)
    | exact upto_z
    | exact upto_s i2 (notB_f (show isSp os id i = false from by assumption))
    | exact upto_s i2 (notB_f (show isSp os id i = false from eqB_f (by assumption)))
    | exact ⟨trivial, trivial⟩
    | trivial
    | trace_state
namespace W4
structure Fns where
  obI : List (List L) → Int → Int
  spI : List (List L) → Int → Int
def F0 : Fns := ⟨obI, spI⟩
def ct (F : Fns) : CT := fun f ds => match f, ds with
  | 48, [.one (.s 4 os), .fn 49 [[.v (.int .i64 id)]]] => some (fun _ => Rw [tI, tI, tI, tI] os ∧ os.length ≤ 1099511627776, [.one (.v (.int .i64 (F.obI os id)))])
  | 50, [.one (.s 3 os), .fn 51 [[.v (.int .i64 id)]]] => some (fun _ => Rw [tI, tI, tI] os ∧ os.length ≤ 1099511627776, [.one (.v (.int .i64 (F.spI os id)))])
  | _, _ => none
theorem ct_ok : CTok Try.prog (ct F0) := by
  intro f ds pre res h hp
  unfold ct at h
  split at h
  · cases h; exact c_slices_IndexFunc_loop_example_g00978_impl_Obj_loop_example_g00978_impl_Obj _ _ hp
  · cases h; exact c_slices_IndexFunc_loop_example_g00978_impl_Span_loop_example_g00978_impl_Span _ _ hp
  · cases h
def mt : Fns → MT := noMT
theorem mt_ok : MTok Try.prog (mt F0) := noMT_ok
def pt : Fns → PT := noPT
theorem pt_ok : PTok Try.prog (pt F0) := noPT_ok
end W4
theorem c_impl_ObjAt (a0 : List (List L)) (a1 : List (List L)) (a2 : List (List L)) (a3 : Int) (a4 : List (List L)) (a5 : List (List L)) (a6 : List (List L)) (a7 : List (List L)) (a8 : List (List L)) (a9 : List (List L)) (a10 : List (List L)) (a11 : List (List L)) (a12 : Int) (a13 : List (List L)) (a14 : Int) (a15 : Int) (a16 : Int) (a17 : Int) (a18 : Bool) (a19 : Int) (a20 : Int) (a21 : List (List L)) (a22 : Int) (a23 : Int) (ad : Int) (hp : Rw [tI, tI, tI, tI] a8 ∧ a8.length ≤ 1099511627776) : Ctr Try.prog 14 [.agg [.s 1 a0, .s 1 a1, .s 2 a2, .v (.int .i64 a3), .s 1 a4, .s 2 a5, .s 3 a6, .s 3 a7, .s 4 a8, .s 1 a9, .s 1 a10, .s 1 a11, .v (.int .i64 a12), .s 3 a13, .v (.int .i64 a14), .v (.int .i64 a15), .v (.int .i64 a16), .v (.int .i64 a17), .v (.bool a18), .v (.int .i64 a19), .v (.int .i64 a20), .s 1 a21, .v (.int .i64 a22), .v (.int .i64 a23)], .one (.v (.int .i64 ad))] [.one (.v (.int .i64 (obI a8 ad)))] := by
  refine ctr_of (ctF := W4.ct) (mtF := W4.mt) (ptF := W4.pt) (F0 := W4.F0) tabOk W4.ct_ok W4.mt_ok W4.pt_ok mixed 9 _ [3] [.tmp 4] Try.func14 rfl rfl rfl rfl rfl ?_
  intro O r F hO hr hF
  cbv
  repeat' first | refine And.intro ?_ ?_ | (refine caseB_intro (fun hb => ?_) (fun hb => ?_) <;> cbv)
  all_goals ((try subst hos); subst hO hr hF; (try simp only [stdO, SS, sub_all, ad_zero] at *); (try simp only [ncast] at *); (try simp only [Int.ofNat_eq_natCast] at *))
  all_goals first
    | exact hp
    | exact rfl
    | trivial
    | trace_state
theorem c_impl_SpanOn (a0 : List (List L)) (a1 : List (List L)) (a2 : List (List L)) (a3 : Int) (a4 : List (List L)) (a5 : List (List L)) (a6 : List (List L)) (a7 : List (List L)) (a8 : List (List L)) (a9 : List (List L)) (a10 : List (List L)) (a11 : List (List L)) (a12 : Int) (a13 : List (List L)) (a14 : Int) (a15 : Int) (a16 : Int) (a17 : Int) (a18 : Bool) (a19 : Int) (a20 : Int) (a21 : List (List L)) (a22 : Int) (a23 : Int) (pg : Int) (hp : Rw [tI, tI, tI] a6 ∧ a6.length ≤ 1099511627776) : Ctr Try.prog 16 [.agg [.s 1 a0, .s 1 a1, .s 2 a2, .v (.int .i64 a3), .s 1 a4, .s 2 a5, .s 3 a6, .s 3 a7, .s 4 a8, .s 1 a9, .s 1 a10, .s 1 a11, .v (.int .i64 a12), .s 3 a13, .v (.int .i64 a14), .v (.int .i64 a15), .v (.int .i64 a16), .v (.int .i64 a17), .v (.bool a18), .v (.int .i64 a19), .v (.int .i64 a20), .s 1 a21, .v (.int .i64 a22), .v (.int .i64 a23)], .one (.v (.int .i64 pg))] [.one (.v (.int .i64 (spI a6 pg)))] := by
  refine ctr_of (ctF := W4.ct) (mtF := W4.mt) (ptF := W4.pt) (F0 := W4.F0) tabOk W4.ct_ok W4.mt_ok W4.pt_ok mixed 9 _ [3] [.tmp 4] Try.func16 rfl rfl rfl rfl rfl ?_
  intro O r F hO hr hF
  cbv
  repeat' first | refine And.intro ?_ ?_ | (refine caseB_intro (fun hb => ?_) (fun hb => ?_) <;> cbv)
  all_goals ((try subst hos); subst hO hr hF; (try simp only [stdO, SS, sub_all, ad_zero] at *); (try simp only [ncast] at *); (try simp only [Int.ofNat_eq_natCast] at *))
  all_goals first
    | exact hp
    | exact rfl
    | trivial
    | trace_state
theorem c_spec_ObjAt (a0 : List (List L)) (a1 : List (List L)) (a2 : List (List L)) (a3 : Int) (a4 : List (List L)) (a5 : List (List L)) (a6 : List (List L)) (a7 : List (List L)) (a8 : List (List L)) (a9 : List (List L)) (a10 : List (List L)) (a11 : List (List L)) (a12 : Int) (a13 : List (List L)) (a14 : Int) (a15 : Int) (a16 : Int) (a17 : Int) (a18 : Bool) (a19 : Int) (a20 : Int) (a21 : List (List L)) (a22 : Int) (a23 : Int) (ad : Int) (hp : Rw [tI, tI, tI, tI] a8 ∧ a8.length ≤ 1099511627776) : Ctr Try.prog 13 [.agg [.s 1 a0, .s 1 a1, .s 2 a2, .v (.int .i64 a3), .s 1 a4, .s 2 a5, .s 3 a6, .s 3 a7, .s 4 a8, .s 1 a9, .s 1 a10, .s 1 a11, .v (.int .i64 a12), .s 3 a13, .v (.int .i64 a14), .v (.int .i64 a15), .v (.int .i64 a16), .v (.int .i64 a17), .v (.bool a18), .v (.int .i64 a19), .v (.int .i64 a20), .s 1 a21, .v (.int .i64 a22), .v (.int .i64 a23)], .one (.v (.int .i64 ad))] [.one (.v (.int .i64 (obI a8 ad)))] := by
  obtain ⟨hw, hn⟩ := hp
  refine ctr_of (ctF := R0.ct) (mtF := R0.mt) (ptF := R0.pt) (F0 := R0.F0) tabOk R0.ct_ok R0.mt_ok R0.pt_ok mixed 22 _ [3] [.tmp 4] Try.func13 rfl rfl rfl rfl rfl ?_
  intro O r F hO hr hF
  cbv
  repeat' first | refine And.intro ?_ ?_ | (refine caseB_intro (fun hb => ?_) (fun hb => ?_) <;> cbv) | (refine ⟨[1, 2, 5], [2], Int, fun i => [.reg 5 (.one (.v (.int .i64 i)))], fun i => 0 ≤ i ∧ i ≤ ((a8.length : Nat) : Int) ∧ upto (notB (isOb a8 ad)) i, fun i => (a8.length) - i.toNat, ⟨0, ?_, ?_⟩, ?_⟩; rotate_left; (focus (cbv; done)); intro i hi; replace hi : 0 ≤ i ∧ i ≤ ((a8.length : Nat) : Int) ∧ upto (notB (isOb a8 ad)) i := hi; obtain ⟨i0, i1, i2⟩ := hi; cbv) | (refine loop_step (O.ar .add .i64 i 1) ?_ ?_ ?_; rotate_left 2; focus (cbv; done))
  all_goals ((try subst hos); subst hO hr hF; (try simp only [stdO, SS, sub_all, ad_zero] at *); (try simp only [ncast] at *); (try simp only [Int.ofNat_eq_natCast] at *))
  all_goals (try simp only [R0.F0] at *)
  all_goals try rw [up64 (by omega) (by omega)]
  all_goals first
    | (show (_ : List DV) = _
       first
         | exact di_eq (first_at i2 i0 (by assumption) (show isOb a8 ad i = true from by assumption)).symm
         | exact di_eq (first_at i2 i0 (by assumption) (show isOb a8 ad i = true from eqB_t (by assumption))).symm
         | exact di_eq (first_no i2 (by assumption)).symm
         | done)
    | omega
    | (refine ⟨by omega, by omega, Eq.trans (Rw.eta (fs := _) (by (first | assumption | exact Rw.sub (by first | assumption | exact Rw.sub (by assumption) (by omega) rfl) (by omega) rfl)) (by omega) (by omega)) ?_⟩; rfl)
    | (show (lk _ _).isSome = true; kernel_rfl)
    | exact upto_z
    | exact upto_s i2 (notB_f (show isOb a8 ad i = false from by assumption))
    | exact upto_s i2 (notB_f (show isOb a8 ad i = false from eqB_f (by assumption)))
    | exact ⟨trivial, trivial⟩
    | trivial
    | trace_state
theorem c_spec_SpanOn (a0 : List (List L)) (a1 : List (List L)) (a2 : List (List L)) (a3 : Int) (a4 : List (List L)) (a5 : List (List L)) (a6 : List (List L)) (a7 : List (List L)) (a8 : List (List L)) (a9 : List (List L)) (a10 : List (List L)) (a11 : List (List L)) (a12 : Int) (a13 : List (List L)) (a14 : Int) (a15 : Int) (a16 : Int) (a17 : Int) (a18 : Bool) (a19 : Int) (a20 : Int) (a21 : List (List L)) (a22 : Int) (a23 : Int) (pg : Int) (hp : Rw [tI, tI, tI] a6 ∧ a6.length ≤ 1099511627776) : Ctr Try.prog 15 [.agg [.s 1 a0, .s 1 a1, .s 2 a2, .v (.int .i64 a3), .s 1 a4, .s 2 a5, .s 3 a6, .s 3 a7, .s 4 a8, .s 1 a9, .s 1 a10, .s 1 a11, .v (.int .i64 a12), .s 3 a13, .v (.int .i64 a14), .v (.int .i64 a15), .v (.int .i64 a16), .v (.int .i64 a17), .v (.bool a18), .v (.int .i64 a19), .v (.int .i64 a20), .s 1 a21, .v (.int .i64 a22), .v (.int .i64 a23)], .one (.v (.int .i64 pg))] [.one (.v (.int .i64 (spI a6 pg)))] := by
  obtain ⟨hw, hn⟩ := hp
  refine ctr_of (ctF := R0.ct) (mtF := R0.mt) (ptF := R0.pt) (F0 := R0.F0) tabOk R0.ct_ok R0.mt_ok R0.pt_ok mixed 22 _ [3] [.tmp 4] Try.func15 rfl rfl rfl rfl rfl ?_
  intro O r F hO hr hF
  cbv
  repeat' first | refine And.intro ?_ ?_ | (refine caseB_intro (fun hb => ?_) (fun hb => ?_) <;> cbv) | (refine ⟨[1, 2, 5], [2], Int, fun i => [.reg 5 (.one (.v (.int .i64 i)))], fun i => 0 ≤ i ∧ i ≤ ((a6.length : Nat) : Int) ∧ upto (notB (isSp a6 pg)) i, fun i => (a6.length) - i.toNat, ⟨0, ?_, ?_⟩, ?_⟩; rotate_left; (focus (cbv; done)); intro i hi; replace hi : 0 ≤ i ∧ i ≤ ((a6.length : Nat) : Int) ∧ upto (notB (isSp a6 pg)) i := hi; obtain ⟨i0, i1, i2⟩ := hi; cbv) | (refine loop_step (O.ar .add .i64 i 1) ?_ ?_ ?_; rotate_left 2; focus (cbv; done))
  all_goals ((try subst hos); subst hO hr hF; (try simp only [stdO, SS, sub_all, ad_zero] at *); (try simp only [ncast] at *); (try simp only [Int.ofNat_eq_natCast] at *))
  all_goals (try simp only [R0.F0] at *)
  all_goals try rw [up64 (by omega) (by omega)]
  all_goals first
    | (show (_ : List DV) = _
       first
         | exact di_eq (first_at i2 i0 (by assumption) (show isSp a6 pg i = true from by assumption)).symm
         | exact di_eq (first_at i2 i0 (by assumption) (show isSp a6 pg i = true from eqB_t (by assumption))).symm
         | exact di_eq (first_no i2 (by assumption)).symm
         | done)
    | omega
    | (refine ⟨by omega, by omega, Eq.trans (Rw.eta (fs := _) (by (first | assumption | exact Rw.sub (by first | assumption | exact Rw.sub (by assumption) (by omega) rfl) (by omega) rfl)) (by omega) (by omega)) ?_⟩; rfl)
    | (show (lk _ _).isSome = true; kernel_rfl)
    | exact upto_z
    | exact upto_s i2 (notB_f (show isSp a6 pg i = false from by assumption))
    | exact upto_s i2 (notB_f (show isSp a6 pg i = false from eqB_f (by assumption)))
    | exact ⟨trivial, trivial⟩
    | trivial
    | trace_state

end Go.V
