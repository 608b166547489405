/-
  Contracts of functions, by evaluation of conditions on their code.
-/
import Derived.Test.YtbfhhmjhdimjlaaS8
import Derived.Test.YtbfhhmjhdimjlaaH8
import Derived.Test.YtbfhhmjhdimjlaaLawRk

set_option linter.all false
namespace Go.V
open Go Go.Proofs
set_option maxRecDepth 1000000
set_option maxHeartbeats 8000000
namespace R0
structure Fns where
  no : Unit
def F0 : Fns := ⟨()⟩
def B : TB Try.prog := {Φ := Fns, F0 := F0}
end R0
theorem c_impl_between (x a b : Int) (hp : True) : Ctr Try.prog 46 [.one (.v (.int .i64 x)), .one (.v (.int .i64 a)), .one (.v (.int .i64 b))] [.one (.v (.bool (inR x a b)))] := by
  refine ctr_b R0.B tabOk mixed 15 _ [4] [.tmp 6] Try.func46 rfl rfl rfl rfl rfl ?_
  intro O r (F : R0.Fns) hO hr (hF : F = R0.F0)
  cbv
  repeat' first | refine And.intro ?_ ?_ | (refine caseB_intro (fun hb => ?_) (fun hb => ?_) <;> cbv)
  all_goals ((try subst hos); subst hO hr hF; (try simp only [stdO, SS, sub_all, ad_zero] at *); (try simp only [ncast] at *); (try simp only [onc] at *))
  all_goals refine db_eq ?_
  · exact b_iff (by rw [inR_t]; simp only [SS]; omega)
  · exact (inR_f.2 (by omega)).symm
theorem c_spec_l01In (x a b : Int) (hp : True) : Ctr Try.prog 53 [.one (.v (.int .i64 x)), .one (.v (.int .i64 a)), .one (.v (.int .i64 b))] [.one (.v (.bool (inR x a b)))] := by
  refine ctr_b R0.B tabOk mixed 15 _ [4] [.tmp 6] Try.func53 rfl rfl rfl rfl rfl ?_
  intro O r (F : R0.Fns) hO hr (hF : F = R0.F0)
  cbv
  repeat' first | refine And.intro ?_ ?_ | (refine caseB_intro (fun hb => ?_) (fun hb => ?_) <;> cbv)
  all_goals ((try subst hos); subst hO hr hF; (try simp only [stdO, SS, sub_all, ad_zero] at *); (try simp only [ncast] at *); (try simp only [onc] at *))
  all_goals refine db_eq ?_
  · exact b_iff (by rw [inR_t]; simp only [SS]; omega)
  · exact (inR_f.2 (by omega)).symm
theorem c_impl_copyInts (es : List (List L)) (hp : Rw [tI] es ∧ es.length ≤ 1099511627776) : Ctr Try.prog 68 [.one (.s 1 es)] [.one (.s 1 es)] := by
  obtain ⟨hw, hl⟩ := hp
  have hs := hw.scal rfl
  refine ctr_b R0.B tabOk mixed 6 _ [24] [.tmp 2] Try.func68 rfl rfl rfl rfl rfl ?_
  intro O r (F : R0.Fns) hO hr (hF : F = R0.F0)
  cbv
  repeat' first | refine And.intro ?_ ?_ | (refine caseB_intro (fun hb => ?_) (fun hb => ?_) <;> cbv)
  all_goals ((try subst hos); subst hO hr hF; (try simp only [stdO, SS, sub_all, ad_zero] at *); (try simp only [ncast] at *); (try simp only [onc] at *))
  all_goals first
    | exact hs
    | trivial
    | exact ⟨trivial, trivial⟩
    | omega
    | (simp only [List.length_nil]; omega)
    | exact rfl
    | trace_state
namespace R1
structure Fns where
  no : Unit
def F0 : Fns := ⟨()⟩
def ct (F : Fns) : CT := fun f ds => match f with
  | 68 => match ds with
    | [.one (.s 1 es)] => some (fun _ => Rw [tI] es ∧ es.length ≤ 1099511627776, [.one (.s 1 es)])
    | _ => none
  | _ => none
theorem ct_ok : CTok Try.prog (ct F0) := by
  intro f ds pre res h hp
  unfold ct at h
  split at h
  · split at h
    · cases h; exact c_impl_copyInts _ hp
    · cases h
  · cases h
def B : TB Try.prog := tb ct_ok
end R1
theorem c_impl_copyRef (n : Int) (os : List (List L)) (hp : Rw tO os ∧ cntE os ≤ 1099511627776) : Ctr Try.prog 47 [.agg [.v (.int .i64 n), .s 2 os]] [.agg [.v (.int .i64 n), .s 2 os]] := by
  obtain ⟨hw, hn⟩ := hp
  have hl := len_cnt (es := os)
  refine ctr_b R1.B tabOk mixed 29 _ [34] [.cell 2 34] Try.func47 rfl rfl rfl rfl rfl ?_
  intro O r (F : R1.Fns) hO hr (hF : F = R1.F0)
  cbv
  repeat' first | refine And.intro ?_ ?_ | (refine caseB_intro (fun hb => ?_) (fun hb => ?_) <;> cbv) | (refine ⟨[2, 3, 10, 11, 12], [2, 3], Int × List (List L), fun s_ => match s_ with | (i, out) => [.reg 12 (.one (.v (.int .i64 i))), .leaf 3 1 ⟨0, 0, none, .own (.s 2 out)⟩], fun s_ => match s_ with | (i, out) => 0 ≤ i ∧ i ≤ (os.length : Int) ∧ out = os.take i.toNat, fun s_ => match s_ with | (i, out) => os.length - i.toNat, ⟨(0, []), ?_, ?_⟩, ?_⟩; rotate_left; (focus (cbv; done)); intro s_ hi; obtain ⟨i, out⟩ := s_; replace hi : 0 ≤ i ∧ i ≤ (os.length : Int) ∧ out = os.take i.toNat := hi; obtain ⟨i0, i1, i2⟩ := hi; cbv) | (refine loop_step (O.ar .add .i64 i 1, O.cat out [[.v (.int .i64 (O.gi os i 0)), .s 1 (O.gs os i 1)]]) ?_ ?_ ?_; rotate_left 2; focus (cbv; done))
  all_goals ((try subst hos); subst hO hr hF; (try simp only [stdO, SS, sub_all, ad_zero] at *); (try simp only [ncast] at *); (try simp only [onc] at *))
  all_goals try rw [up64 (by omega) (by omega)]
  all_goals try (have hol : out.length = i.toNat := (by rw [i2, List.length_take]; omega))
  all_goals try (have hsc := obj_cnt hw i0 (by assumption); have hsl := len_cnt (es := gsI os i 1))
  all_goals first
    | (show (_ : List DV) = _
       first
         | exact rc_eq rfl (by rw [i2, take_end (by omega)])
         | done)
    | (show (_ : List (List L)) = _
       first
         | (rw [i2]; exact (take_obj hw i0 (by assumption)).symm)
         | exact (rfl : [] = os.take 0)
         | done)
    | omega
    | (refine ⟨by omega, by omega, Eq.trans (Rw.eta (fs := _) (by (first | assumption | exact Rw.sub (by first | assumption | exact Rw.sub (by assumption) (by omega) rfl) (by omega) rfl)) (by omega) (by omega)) ?_⟩; rfl)
    | (show okOrder _ _ = true; kernel_rfl)
    | exact ⟨hw, hn⟩
    | exact ⟨by (first | assumption | exact Rw.sub (by first | assumption | exact Rw.sub (by assumption) (by omega) rfl) (by omega) rfl), by omega⟩
    | (simp only [List.length_nil, List.length_cons]; omega)
    | exact ⟨trivial, trivial⟩
    | trivial
    | trace_state
theorem c_spec_l33Copy (n : Int) (os : List (List L)) (hp : Rw tO os ∧ cntE os ≤ 1099511627776) : Ctr Try.prog 51 [.agg [.v (.int .i64 n), .s 2 os]] [.agg [.v (.int .i64 n), .s 2 os]] := by
  obtain ⟨hw, hn⟩ := hp
  have hl := len_cnt (es := os)
  refine ctr_b R0.B tabOk mixed 36 _ [34] [.cell 2 34] Try.func51 rfl rfl rfl rfl rfl ?_
  intro O r (F : R0.Fns) hO hr (hF : F = R0.F0)
  cbv
  repeat' first | refine And.intro ?_ ?_ | (refine caseB_intro (fun hb => ?_) (fun hb => ?_) <;> cbv) | (refine ⟨[1, 2, 3, 4], [1, 2, 3], Int × List (List L), fun s_ => match s_ with | (i, out) => [.reg 4 (.one (.v (.int .i64 i))), .leaf 3 1 ⟨0, 0, none, .own (.s 2 out)⟩], fun s_ => match s_ with | (i, out) => 0 ≤ i ∧ i ≤ (os.length : Int) ∧ out = os.take i.toNat, fun s_ => match s_ with | (i, out) => os.length - i.toNat, ⟨(0, []), ?_, ?_⟩, ?_⟩; rotate_left; (focus (cbv; done)); intro s_ hi; obtain ⟨i, out⟩ := s_; replace hi : 0 ≤ i ∧ i ≤ (os.length : Int) ∧ out = os.take i.toNat := hi; obtain ⟨i0, i1, i2⟩ := hi; cbv) | (refine loop_step (O.ar .add .i64 i 1, O.cat out [[.v (.int .i64 (O.gi os i 0)), .s 1 (O.cat [] (O.gs os i 1))]]) ?_ ?_ ?_; rotate_left 2; focus (cbv; done))
  all_goals ((try subst hos); subst hO hr hF; (try simp only [stdO, SS, sub_all, ad_zero] at *); (try simp only [ncast] at *); (try simp only [onc] at *))
  all_goals try rw [up64 (by omega) (by omega)]
  all_goals try (have hol : out.length = i.toNat := (by rw [i2, List.length_take]; omega))
  all_goals try (have hsc := obj_cnt hw i0 (by assumption); have hsl := len_cnt (es := gsI os i 1))
  all_goals first
    | (show (_ : List DV) = _
       first
         | exact rc_eq rfl (by rw [i2, take_end (by omega)])
         | done)
    | (show (_ : List (List L)) = _
       first
         | (rw [i2]; exact (take_obj hw i0 (by assumption)).symm)
         | exact (rfl : [] = os.take 0)
         | done)
    | omega
    | (refine ⟨by omega, by omega, Eq.trans (Rw.eta (fs := _) (by (first | assumption | exact Rw.sub (by first | assumption | exact Rw.sub (by assumption) (by omega) rfl) (by omega) rfl)) (by omega) (by omega)) ?_⟩; rfl)
    | (show okOrder _ _ = true; kernel_rfl)
    | exact ⟨hw, hn⟩
    | exact Rw.scal (fs := [tI]) (by (first | assumption | exact Rw.sub (by first | assumption | exact Rw.sub (by assumption) (by omega) rfl) (by omega) rfl)) rfl
    | exact ⟨by (first | assumption | exact Rw.sub (by first | assumption | exact Rw.sub (by assumption) (by omega) rfl) (by omega) rfl), by omega⟩
    | (simp only [List.length_nil, List.length_cons]; omega)
    | exact ⟨trivial, trivial⟩
    | trivial
    | trace_state
theorem c_impl_refIndex_1 (d : Int) (cs : List (List L)) (id : Int) (hp : True) : Ctr Try.prog 80 [.agg [.v (.int .i64 d), .s 1 cs], .ptr [.v (.int .i64 id)]] [.one (.v (.bool (eqB d id)))] := by
  refine ctr_b R0.B tabOk mixed 8 _ [4] [.tmp 3] Try.func80 rfl rfl rfl rfl rfl ?_
  intro O r (F : R0.Fns) hO hr (hF : F = R0.F0)
  cbv
  repeat' first | refine And.intro ?_ ?_ | (refine caseB_intro (fun hb => ?_) (fun hb => ?_) <;> cbv)
  all_goals ((try subst hos); subst hO hr hF; (try simp only [stdO, SS, sub_all, ad_zero] at *); (try simp only [ncast] at *); (try simp only [onc] at *))
  all_goals first
    | (show (_ : List DV) = _
       first
         | exact db_eq (eqB_t (by assumption)).symm
         | exact db_eq (eqB_f (by assumption)).symm
         | exact db_eq (b_iff (by unfold eqB; simp only [SS, decide_eq_true_eq]))
         | done)
    | trivial
    | trace_state
namespace R2
structure Fns where
  eqB : Int → Int → Bool
def F0 : Fns := ⟨eqB⟩
def ct (F : Fns) : CT := fun f ds => match f with
  | 80 => match ds with
    | [.agg [.v (.int .i64 d), .s 1 cs], .ptr [.v (.int .i64 id)]] => some (fun _ => True, [.one (.v (.bool (F.eqB d id)))])
    | _ => none
  | _ => none
theorem ct_ok : CTok Try.prog (ct F0) := by
  intro f ds pre res h hp
  unfold ct at h
  split at h
  · split at h
    · cases h; exact c_impl_refIndex_1 _ _ _ hp
    · cases h
  · cases h
def B : TB Try.prog := tb ct_ok
end R2
theorem c_slices_IndexFunc_loop_example_g00978_impl_RefObj_loop_example_g00978_impl_RefObj (os : List (List L)) (id : Int) (hp : Rw tO os ∧ os.length ≤ 1099511627776) : Ctr Try.prog 79 [.one (.s 2 os), .fn 80 [[.v (.int .i64 id)]]] [.one (.v (.int .i64 (rfI os id)))] := by
  obtain ⟨hw, hn⟩ := hp
  refine ctr_b R2.B tabOk mixed 19 _ [3] [.tmp 4] Try.func79 rfl rfl rfl rfl rfl ?_
  intro O r (F : R2.Fns) hO hr (hF : F = R2.F0)
  cbv
  repeat' first | refine And.intro ?_ ?_ | (refine caseB_intro (fun hb => ?_) (fun hb => ?_) <;> cbv) | (refine ⟨[0, 1, 7, 8], [0], Int, fun i => [.reg 8 (.one (.v (.int .i64 i)))], fun i => 0 ≤ i ∧ i ≤ ((os.length : Nat) : Int) ∧ upto (notB (isId os id)) i, fun i => (os.length) - i.toNat, ⟨0, ?_, ?_⟩, ?_⟩; rotate_left; (focus (cbv; done)); intro i hi; replace hi : 0 ≤ i ∧ i ≤ ((os.length : Nat) : Int) ∧ upto (notB (isId os id)) i := hi; obtain ⟨i0, i1, i2⟩ := hi; cbv) | (refine loop_step (O.ar .add .i64 i 1) ?_ ?_ ?_; rotate_left 2; focus (cbv; done))
  all_goals ((try subst hos); subst hO hr hF; (try simp only [stdO, SS, sub_all, ad_zero] at *); (try simp only [ncast] at *); (try simp only [onc] at *))
  all_goals (try simp only [R2.F0] at *)
  all_goals try rw [up64 (by omega) (by omega)]
  all_goals first
    | (show (_ : List DV) = _
       first
         | exact di_eq (first_at i2 i0 (by assumption) (show isId os id i = true from by assumption)).symm
         | exact di_eq (first_at i2 i0 (by assumption) (show isId os id i = true from eqB_t (by assumption))).symm
         | exact di_eq (first_no i2 (by assumption)).symm
         | done)
    | omega
    | (refine ⟨by omega, by omega, Eq.trans (Rw.eta (fs := _) (by (first | assumption | exact Rw.sub (by first | assumption | exact Rw.sub (by assumption) (by omega) rfl) (by omega) rfl)) (by omega) (by omega)) ?_⟩; rfl)
    | (show (lk _ _).isSome = true; kernel_rfl)
    | exact upto_z
    | exact upto_s i2 (notB_f (show isId os id i = false from by assumption))
    | exact upto_s i2 (notB_f (show isId os id i = false from eqB_f (by assumption)))
    | exact ⟨trivial, trivial⟩
    | trivial
    | trace_state
namespace R3
structure Fns where
  rfI : List (List L) → Int → Int
def F0 : Fns := ⟨rfI⟩
def ct (F : Fns) : CT := fun f ds => match f with
  | 79 => match ds with
    | [.one (.s 2 os), .fn 80 [[.v (.int .i64 id)]]] => some (fun _ => Rw tO os ∧ os.length ≤ 1099511627776, [.one (.v (.int .i64 (F.rfI os id)))])
    | _ => none
  | _ => none
theorem ct_ok : CTok Try.prog (ct F0) := by
  intro f ds pre res h hp
  unfold ct at h
  split at h
  · split at h
    · cases h; exact c_slices_IndexFunc_loop_example_g00978_impl_RefObj_loop_example_g00978_impl_RefObj _ _ hp
    · cases h
  · cases h
def B : TB Try.prog := tb ct_ok
end R3
theorem c_impl_refIndex (n : Int) (os : List (List L)) (id : Int) (hp : Rw tO os ∧ os.length ≤ 1099511627776) : Ctr Try.prog 48 [.agg [.v (.int .i64 n), .s 2 os], .one (.v (.int .i64 id))] [.one (.v (.int .i64 (rfI os id)))] := by
  refine ctr_b R3.B tabOk mixed 9 _ [3] [.tmp 4] Try.func48 rfl rfl rfl rfl rfl ?_
  intro O r (F : R3.Fns) hO hr (hF : F = R3.F0)
  cbv
  repeat' first | refine And.intro ?_ ?_ | (refine caseB_intro (fun hb => ?_) (fun hb => ?_) <;> cbv)
  all_goals ((try subst hos); subst hO hr hF; (try simp only [stdO, SS, sub_all, ad_zero] at *); (try simp only [ncast] at *); (try simp only [onc] at *))
  all_goals first
    | exact hp
    | exact rfl
    | trivial
    | trace_state
theorem c_spec_l33At (n : Int) (os : List (List L)) (id : Int) (hp : Rw tO os ∧ os.length ≤ 1099511627776) : Ctr Try.prog 52 [.agg [.v (.int .i64 n), .s 2 os], .one (.v (.int .i64 id))] [.one (.v (.int .i64 (rfI os id)))] := by
  obtain ⟨hw, hn⟩ := hp
  refine ctr_b R0.B tabOk mixed 22 _ [3] [.tmp 4] Try.func52 rfl rfl rfl rfl rfl ?_
  intro O r (F : R0.Fns) hO hr (hF : F = R0.F0)
  cbv
  repeat' first | refine And.intro ?_ ?_ | (refine caseB_intro (fun hb => ?_) (fun hb => ?_) <;> cbv) | (refine ⟨[1, 2, 5], [2], Int, fun i => [.reg 5 (.one (.v (.int .i64 i)))], fun i => 0 ≤ i ∧ i ≤ ((os.length : Nat) : Int) ∧ upto (notB (isId os id)) i, fun i => (os.length) - i.toNat, ⟨0, ?_, ?_⟩, ?_⟩; rotate_left; (focus (cbv; done)); intro i hi; replace hi : 0 ≤ i ∧ i ≤ ((os.length : Nat) : Int) ∧ upto (notB (isId os id)) i := hi; obtain ⟨i0, i1, i2⟩ := hi; cbv) | (refine loop_step (O.ar .add .i64 i 1) ?_ ?_ ?_; rotate_left 2; focus (cbv; done))
  all_goals ((try subst hos); subst hO hr hF; (try simp only [stdO, SS, sub_all, ad_zero] at *); (try simp only [ncast] at *); (try simp only [onc] at *))
  all_goals try rw [up64 (by omega) (by omega)]
  all_goals first
    | (show (_ : List DV) = _
       first
         | exact di_eq (first_at i2 i0 (by assumption) (show isId os id i = true from by assumption)).symm
         | exact di_eq (first_at i2 i0 (by assumption) (show isId os id i = true from eqB_t (by assumption))).symm
         | exact di_eq (first_no i2 (by assumption)).symm
         | done)
    | omega
    | (refine ⟨by omega, by omega, Eq.trans (Rw.eta (fs := _) (by (first | assumption | exact Rw.sub (by first | assumption | exact Rw.sub (by assumption) (by omega) rfl) (by omega) rfl)) (by omega) (by omega)) ?_⟩; rfl)
    | (show (lk _ _).isSome = true; kernel_rfl)
    | exact upto_z
    | exact upto_s i2 (notB_f (show isId os id i = false from by assumption))
    | exact upto_s i2 (notB_f (show isId os id i = false from eqB_f (by assumption)))
    | exact ⟨trivial, trivial⟩
    | trivial
    | trace_state
namespace R4
structure Fns where
  inR : Int → Int → Int → Bool
  rfI : List (List L) → Int → Int
def F0 : Fns := ⟨inR, rfI⟩
def ct (F : Fns) : CT := fun f ds => match f with
  | 47 => match ds with
    | [.agg [.v (.int .i64 n), .s 2 os]] => some (fun _ => Rw tO os ∧ cntE os ≤ 1099511627776, [.agg [.v (.int .i64 n), .s 2 os]])
    | _ => none
  | 46 => match ds with
    | [.one (.v (.int .i64 x)), .one (.v (.int .i64 a)), .one (.v (.int .i64 b))] => some (fun _ => True, [.one (.v (.bool (F.inR x a b)))])
    | _ => none
  | 48 => match ds with
    | [.agg [.v (.int .i64 n), .s 2 os], .one (.v (.int .i64 id))] => some (fun _ => Rw tO os ∧ os.length ≤ 1099511627776, [.one (.v (.int .i64 (F.rfI os id)))])
    | _ => none
  | 51 => match ds with
    | [.agg [.v (.int .i64 n), .s 2 os]] => some (fun _ => Rw tO os ∧ cntE os ≤ 1099511627776, [.agg [.v (.int .i64 n), .s 2 os]])
    | _ => none
  | 53 => match ds with
    | [.one (.v (.int .i64 x)), .one (.v (.int .i64 a)), .one (.v (.int .i64 b))] => some (fun _ => True, [.one (.v (.bool (F.inR x a b)))])
    | _ => none
  | 52 => match ds with
    | [.agg [.v (.int .i64 n), .s 2 os], .one (.v (.int .i64 id))] => some (fun _ => Rw tO os ∧ os.length ≤ 1099511627776, [.one (.v (.int .i64 (F.rfI os id)))])
    | _ => none
  | _ => none
theorem ct_ok : CTok Try.prog (ct F0) := by
  intro f ds pre res h hp
  unfold ct at h
  split at h
  · split at h
    · cases h; exact c_impl_copyRef _ _ hp
    · cases h
  · split at h
    · cases h; exact c_impl_between _ _ _ hp
    · cases h
  · split at h
    · cases h; exact c_impl_refIndex _ _ _ hp
    · cases h
  · split at h
    · cases h; exact c_spec_l33Copy _ _ hp
    · cases h
  · split at h
    · cases h; exact c_spec_l01In _ _ _ hp
    · cases h
  · split at h
    · cases h; exact c_spec_l33At _ _ _ hp
    · cases h
  · cases h
def B : TB Try.prog := tb ct_ok
end R4
theorem c_impl_RefAlloc (n : Int) (os : List (List L)) (sz : Int) (hp : Rw tO os ∧ cntE os ≤ 1099511627776) : Ctr Try.prog 19 [.agg [.v (.int .i64 n), .s 2 os], .one (.v (.int .i64 sz))] [.agg [.v (.int .i64 (raN n sz)), .s 2 (raO n os sz)], .one (.v (.int .i64 (raR n sz)))] := by
  obtain ⟨hw, hn⟩ := hp
  have hl := len_cnt (es := os)
  refine ctr_b R4.B tabOk mixed 30 _ [34, 3] [.cell 4 34, .tmp 5] Try.func19 rfl rfl rfl rfl rfl ?_
  intro O r (F : R4.Fns) hO hr (hF : F = R4.F0)
  cbv
  repeat' first | refine And.intro ?_ ?_ | (refine caseB_intro (fun hb => ?_) (fun hb => ?_) <;> cbv)
  all_goals ((try subst hos); subst hO hr hF; (try simp only [stdO, SS, sub_all, ad_zero] at *); (try simp only [ncast] at *); (try simp only [onc] at *))
  all_goals (try simp only [R4.F0] at *)
  all_goals try (have hz := inR_t.1 (‹inR sz 1 1000 = true›))
  all_goals first
    | (show (_ : List DV) = _
       first
         | (have q := ra_no (n := n) (sz := sz) (os := os) (by assumption); exact ra_eq q.1.symm q.2.1.symm q.2.2.symm)
         | (have q := ra_yes (n := n) (sz := sz) (os := os) (by assumption); exact ra_eq q.1.symm q.2.1.symm q.2.2.symm)
         | done)
    | omega
    | (show okOrder _ _ = true; kernel_rfl)
    | exact ⟨hw, hn⟩
    | (simp only [List.length_nil, List.length_cons]; omega)
    | exact ⟨trivial, trivial⟩
    | trivial
    | trace_state
theorem c_impl_RefStore (n : Int) (os : List (List L)) (id k v : Int) (hp : Rw tO os ∧ cntE os ≤ 1099511627776) : Ctr Try.prog 20 [.agg [.v (.int .i64 n), .s 2 os], .one (.v (.int .i64 id)), .one (.v (.int .i64 k)), .one (.v (.int .i64 v))] [.agg [.v (.int .i64 n), .s 2 (rsO os id k v)], .one (.v (.bool (rsB os id k v)))] := by
  obtain ⟨hw, hn⟩ := hp
  have hl := len_cnt (es := os)
  have hb0 := rf_bd (os := os) (id := id)
  refine ctr_b R4.B tabOk mixed 48 _ [34, 4] [.cell 8 34, .tmp 9] Try.func20 rfl rfl rfl rfl rfl ?_
  intro O r (F : R4.Fns) hO hr (hF : F = R4.F0)
  cbv
  repeat' first | refine And.intro ?_ ?_ | (refine caseB_intro (fun hb => ?_) (fun hb => ?_) <;> cbv)
  all_goals ((try subst hos); subst hO hr hF; (try simp only [stdO, SS, sub_all, ad_zero] at *); (try simp only [ncast] at *); (try simp only [onc] at *))
  all_goals (try simp only [R4.F0, ps_o] at *)
  all_goals try (have hoc := obj_cnt hw (i := rfI os id) (by omega) (by omega); have hol := len_cnt (es := gsI os (rfI os id) 1); have hsb : arI .sub .i64 (gsI os (rfI os id) 1).length 1 = (gsI os (rfI os id) 1).length - 1 := sub64 (by omega); simp only [hsb] at *)
  all_goals try (have hk := inR_t.1 (‹inR k 0 ((gsI os (rfI os id) 1).length - 1) = true›))
  all_goals first
    | (show (_ : List DV) = _
       first
         | (have q := rs_no (os := os) (id := id) (at_ := k) (v := v) (by rintro ⟨a, b, c⟩; first | omega | simp_all); exact rb_eq rfl q.1.symm q.2.symm)
         | (have q := rs_yes (os := os) (id := id) (at_ := k) (v := v) (by omega) (by assumption) (by assumption); exact rb_eq rfl ((up_o hw (by omega) (by omega) hk.1 (by omega)).trans q.1.symm) q.2.symm)
         | done)
    | omega
    | (show okOrder _ _ = true; kernel_rfl)
    | exact ⟨hw, hn⟩
    | exact ⟨hw, by omega⟩
    | (refine ⟨by omega, by omega, Eq.trans (Rw.eta (fs := _) (by (first | assumption | exact Rw.sub (by first | assumption | exact Rw.sub (by assumption) (by omega) rfl) (by omega) rfl)) (by omega) (by omega)) ?_⟩; rfl)
    | exact get_o hw (by omega) (by omega)
    | exact ⟨by omega, by omega, _, getS_o hw (by omega) (by omega)⟩
    | exact getR_o hw (by omega) (by omega) hk.1 (by omega)
    | exact ⟨trivial, trivial⟩
    | trivial
    | trace_state
end Go.V
