/-
  Contracts of functions, by evaluation of conditions on their code.
-/
import Derived.Test.YtbdgkoalfnehoaaGreatS6
import Derived.Test.YtbdgkoalfnehoaaGreatKerBg

set_option linter.all false
namespace Go.V
open Go Go.Proofs
set_option maxRecDepth 1000000
set_option maxHeartbeats 8000000
namespace N5
structure Fns where
  knC : Int → Int → List (List L) → List (List L)
  knU : Int → Int → List (List L) → List (List L)
  knE : Int → Int → List (List L) → List (List L)
  knR : Int → Int → List (List L) → List (List L)
  knB : Int → Int → List (List L) → Bool
  mwB : Int → List (List L)
  mwI : Int → List (List L)
  inR : Int → Int → Int → Bool
  qnR : Int → Int
  cnL : List (List L)
def F0 : Fns := ⟨knC, knU, knE, knR, knB, mwB, mwI, inR, qnR, cnL⟩
def ct (F : Fns) : CT := fun f ds => match f with
  | 77 => match ds with
    | [.one (.v (.int .i64 p)), .one (.v (.int .i64 f)), .one (.s 1 rs)] => some (fun _ => Rw [tI] rs ∧ rs.length ≤ 1099511627776, [.agg [.s 1 (F.knC p f rs), .s 1 (F.knU p f rs), .s 2 (F.knE p f rs), .v (.int .i64 0), .s 1 (F.knR p f rs)], .one (.v (.bool (F.knB p f rs)))])
    | _ => none
  | 78 => match ds with
    | [.one (.v (.int .i64 t))] => some (fun _ => True, [.agg [.s 1 (F.mwB t), .s 1 (F.mwI t)], .one (.v (.bool (F.inR t 1 4)))])
    | _ => none
  | 79 => match ds with
    | [.one (.v (.int .i64 x)), .one (.v (.int .i64 a)), .one (.v (.int .i64 b))] => some (fun _ => True, [.one (.v (.bool (F.inR x a b)))])
    | _ => none
  | 80 => match ds with
    | [.one (.v (.int .i64 q))] => some (fun _ => True, [.agg [.v (.int .i64 (F.qnR q)), .s 3 []], .one (.v (.bool (F.inR q 0 500)))])
    | _ => none
  | 81 => match ds with
    | [] => some (fun _ => True, [.agg [.s 1 (F.cnL)]])
    | _ => none
  | _ => none
theorem ct_ok : CTok Tryz.prog (ct F0) := by
  intro f ds pre res h hp
  unfold ct at h
  split at h
  · split at h
    · cases h; exact c_impl_KernelNew _ _ _ hp
    · cases h
  · split at h
    · cases h; exact c_impl_MailNew _ hp
    · cases h
  · split at h
    · cases h; exact c_impl_between _ _ _ hp
    · cases h
  · split at h
    · cases h; exact c_impl_QuarNew _ hp
    · cases h
  · split at h
    · cases h; exact c_impl_CacheNew  hp
    · cases h
  · cases h
def mt : Fns → MT := noMT
theorem mt_ok : MTok Tryz.prog (mt F0) := noMT_ok
def pt : Fns → PT := noPT
theorem pt_ok : PTok Tryz.prog (pt F0) := noPT_ok
end N5
theorem c_impl_HeapNew (p f t l : Int) (rs : List (List L)) (hp : Rw [tI] rs ∧ rs.length ≤ 1099511627776) : Ctr Tryz.prog 18 [.one (.v (.int .i64 p)), .one (.v (.int .i64 f)), .one (.v (.int .i64 t)), .one (.v (.int .i64 l)), .one (.s 1 rs)] [.agg [.s 1 (hnC p f t l rs), .s 1 (hnU p f t l rs), .s 2 (hnE p f t l rs), .v (.int .i64 0), .s 1 (hnR p f t l rs), .s 2 (hnF p f t l rs), .s 3 [], .s 3 [], .s 4 [], .s 1 (hnK p f t l rs), .s 1 (hnM p f t l rs), .s 1 (hnI p f t l rs), .v (.int .i64 (hnQ p f t l rs)), .s 3 [], .v (.int .i64 0), .v (.int .i64 0), .v (.int .i64 (hnL p f t l rs)), .v (.int .i64 (hnN p f t l rs)), .v (.bool false), .v (.int .i64 0), .v (.int .i64 0), .s 1 [], .v (.int .i64 0), .v (.int .i64 0)], .one (.v (.bool (hnB p f t l rs)))] := by
  obtain ⟨hr, hl⟩ := hp
  refine ctr_of (ctF := N5.ct) (mtF := N5.mt) (ptF := N5.pt) (F0 := N5.F0) tabOk N5.ct_ok N5.mt_ok N5.pt_ok mixed 68 _ [76, 4] [.cell 10 76, .tmp 11] Tryz.func18 rfl rfl rfl rfl rfl ?_
  intro O r F hO hr hF
  cbv
  repeat' first | refine And.intro ?_ ?_ | (refine caseB_intro (fun hb => ?_) (fun hb => ?_) <;> cbv) | (refine ⟨[2, 10, 18, 19], [10, 18], Int × List (List L), fun s_ => match s_ with | (i, out) => [.reg 19 (.one (.v (.int .i64 i))), .leaf 18 9 ⟨0, 0, none, .own (.s 1 out)⟩], fun s_ => match s_ with | (i, out) => 0 ≤ i ∧ i ≤ t ∧ out = List.replicate i.toNat [.s 1 cnL], fun s_ => match s_ with | (i, out) => (t - i).toNat, ⟨(0, []), ?_, ?_⟩, ?_⟩; rotate_left; (focus (cbv; done)); intro s_ hi; obtain ⟨i, out⟩ := s_; replace hi : 0 ≤ i ∧ i ≤ t ∧ out = List.replicate i.toNat [.s 1 cnL] := hi; obtain ⟨i0, i1, i2⟩ := hi; cbv) | (refine loop_step (O.ar .add .i64 i 1, O.cat out [[.s 1 F.cnL]]) ?_ ?_ ?_; rotate_left 2; focus (cbv; done))
  all_goals ((try subst hos); subst hO hr hF; (try simp only [stdO, SS, sub_all, ad_zero] at *); (try simp only [ncast] at *); (try simp only [Int.ofNat_eq_natCast] at *))
  all_goals (try simp only [N5.F0] at *)
  all_goals try (have hn := inR_t.1 (‹inR t 1 4 = true›))
  all_goals try rw [up64 (by omega) (by omega)]
  all_goals first
    | (show (_ : List DV) = _
       first
         | (have q : hnB p f t l rs = true := hn_t.2 ⟨by assumption, by assumption, by assumption⟩
            have w := hn_yes q; have u := kn_yes (hn_t.1 q).1
            exact hp_eq (u.1.trans w.1.symm) (u.2.1.trans w.2.1.symm) (u.2.2.1.trans w.2.2.1.symm) (u.2.2.2.trans w.2.2.2.1.symm) w.2.2.2.2.1.symm (by rw [w.2.2.2.2.2.1, i2]; congr 1; omega) w.2.2.2.2.2.2.1.symm w.2.2.2.2.2.2.2.1.symm w.2.2.2.2.2.2.2.2.1.symm w.2.2.2.2.2.2.2.2.2.1.symm w.2.2.2.2.2.2.2.2.2.2.symm q.symm)
         | (have q : hnB p f t l rs = false := hn_f (by rintro ⟨z1, z2, z3⟩; simp_all)
            have w := hn_no q
            exact hp_eq w.1.symm w.2.1.symm w.2.2.1.symm w.2.2.2.1.symm w.2.2.2.2.1.symm w.2.2.2.2.2.1.symm w.2.2.2.2.2.2.1.symm w.2.2.2.2.2.2.2.1.symm w.2.2.2.2.2.2.2.2.1.symm w.2.2.2.2.2.2.2.2.2.1.symm w.2.2.2.2.2.2.2.2.2.2.symm q.symm)
         | done)
    | (show (_ : List (List L)) = _
       first
         | (rw [i2]; exact rep_up i0)
         | exact rfl
         | done)
    | exact ⟨hr, by omega⟩
    | omega
    | (show okOrder _ _ = true; kernel_rfl)
    | (rw [i2, List.length_replicate]; exact ⟨by simp only [List.length_cons, List.length_nil]; omega, by simp only [List.length_cons, List.length_nil]; omega⟩)
    | exact ⟨True.intro, True.intro⟩
    | trivial
    | trace_state
namespace N6
structure Fns where
  knC : Int → Int → List (List L) → List (List L)
  knU : Int → Int → List (List L) → List (List L)
  knE : Int → Int → List (List L) → List (List L)
  knR : Int → Int → List (List L) → List (List L)
  knB : Int → Int → List (List L) → Bool
  mwB : Int → List (List L)
  mwI : Int → List (List L)
  inR : Int → Int → Int → Bool
  qnR : Int → Int
  cnL : List (List L)
def F0 : Fns := ⟨knC, knU, knE, knR, knB, mwB, mwI, inR, qnR, cnL⟩
def ct (F : Fns) : CT := fun f ds => match f with
  | 72 => match ds with
    | [.one (.v (.int .i64 p)), .one (.v (.int .i64 f)), .one (.s 1 rs)] => some (fun _ => Rw [tI] rs ∧ rs.length ≤ 1099511627776, [.agg [.s 1 (F.knC p f rs), .s 1 (F.knU p f rs), .s 2 (F.knE p f rs), .v (.int .i64 0), .s 1 (F.knR p f rs)], .one (.v (.bool (F.knB p f rs)))])
    | _ => none
  | 73 => match ds with
    | [.one (.v (.int .i64 t))] => some (fun _ => True, [.agg [.s 1 (F.mwB t), .s 1 (F.mwI t)], .one (.v (.bool (F.inR t 1 4)))])
    | _ => none
  | 74 => match ds with
    | [.one (.v (.int .i64 x)), .one (.v (.int .i64 a)), .one (.v (.int .i64 b))] => some (fun _ => True, [.one (.v (.bool (F.inR x a b)))])
    | _ => none
  | 76 => match ds with
    | [.one (.v (.int .i64 q))] => some (fun _ => True, [.agg [.v (.int .i64 (F.qnR q)), .s 3 []], .one (.v (.bool (F.inR q 0 500)))])
    | _ => none
  | 75 => match ds with
    | [] => some (fun _ => True, [.agg [.s 1 (F.cnL)]])
    | _ => none
  | _ => none
theorem ct_ok : CTok Tryz.prog (ct F0) := by
  intro f ds pre res h hp
  unfold ct at h
  split at h
  · split at h
    · cases h; exact c_spec_KernelNew _ _ _ hp
    · cases h
  · split at h
    · cases h; exact c_spec_MailNew _ hp
    · cases h
  · split at h
    · cases h; exact c_spec_l01In _ _ _ hp
    · cases h
  · split at h
    · cases h; exact c_spec_QuarNew _ hp
    · cases h
  · split at h
    · cases h; exact c_spec_CacheNew  hp
    · cases h
  · cases h
def mt : Fns → MT := noMT
theorem mt_ok : MTok Tryz.prog (mt F0) := noMT_ok
def pt : Fns → PT := noPT
theorem pt_ok : PTok Tryz.prog (pt F0) := noPT_ok
end N6
theorem c_spec_HeapNew (p f t l : Int) (rs : List (List L)) (hp : Rw [tI] rs ∧ rs.length ≤ 1099511627776) : Ctr Tryz.prog 16 [.one (.v (.int .i64 p)), .one (.v (.int .i64 f)), .one (.v (.int .i64 t)), .one (.v (.int .i64 l)), .one (.s 1 rs)] [.agg [.s 1 (hnC p f t l rs), .s 1 (hnU p f t l rs), .s 2 (hnE p f t l rs), .v (.int .i64 0), .s 1 (hnR p f t l rs), .s 2 (hnF p f t l rs), .s 3 [], .s 3 [], .s 4 [], .s 1 (hnK p f t l rs), .s 1 (hnM p f t l rs), .s 1 (hnI p f t l rs), .v (.int .i64 (hnQ p f t l rs)), .s 3 [], .v (.int .i64 0), .v (.int .i64 0), .v (.int .i64 (hnL p f t l rs)), .v (.int .i64 (hnN p f t l rs)), .v (.bool false), .v (.int .i64 0), .v (.int .i64 0), .s 1 [], .v (.int .i64 0), .v (.int .i64 0)], .one (.v (.bool (hnB p f t l rs)))] := by
  obtain ⟨hr, hl⟩ := hp
  refine ctr_of (ctF := N6.ct) (mtF := N6.mt) (ptF := N6.pt) (F0 := N6.F0) tabOk N6.ct_ok N6.mt_ok N6.pt_ok mixed 66 _ [76, 4] [.cell 10 76, .tmp 11] Tryz.func16 rfl rfl rfl rfl rfl ?_
  intro O r F hO hr hF
  cbv
  repeat' first | refine And.intro ?_ ?_ | (refine caseB_intro (fun hb => ?_) (fun hb => ?_) <;> cbv) | (refine ⟨[2, 10, 16, 17], [10, 16], Int × List (List L), fun s_ => match s_ with | (i, out) => [.reg 17 (.one (.v (.int .i64 i))), .leaf 16 9 ⟨0, 0, none, .own (.s 1 out)⟩], fun s_ => match s_ with | (i, out) => 0 ≤ i ∧ i ≤ t ∧ out = List.replicate i.toNat [.s 1 cnL], fun s_ => match s_ with | (i, out) => (t - i).toNat, ⟨(0, []), ?_, ?_⟩, ?_⟩; rotate_left; (focus (cbv; done)); intro s_ hi; obtain ⟨i, out⟩ := s_; replace hi : 0 ≤ i ∧ i ≤ t ∧ out = List.replicate i.toNat [.s 1 cnL] := hi; obtain ⟨i0, i1, i2⟩ := hi; cbv) | (refine loop_step (O.ar .add .i64 i 1, O.cat out [[.s 1 F.cnL]]) ?_ ?_ ?_; rotate_left 2; focus (cbv; done))
  all_goals ((try subst hos); subst hO hr hF; (try simp only [stdO, SS, sub_all, ad_zero] at *); (try simp only [ncast] at *); (try simp only [Int.ofNat_eq_natCast] at *))
  all_goals (try simp only [N6.F0] at *)
  all_goals try (have hn := inR_t.1 (‹inR t 1 4 = true›))
  all_goals try rw [up64 (by omega) (by omega)]
  all_goals first
    | (show (_ : List DV) = _
       first
         | (have q : hnB p f t l rs = true := hn_t.2 ⟨by assumption, by assumption, by assumption⟩
            have w := hn_yes q; have u := kn_yes (hn_t.1 q).1
            exact hp_eq (u.1.trans w.1.symm) (u.2.1.trans w.2.1.symm) (u.2.2.1.trans w.2.2.1.symm) (u.2.2.2.trans w.2.2.2.1.symm) w.2.2.2.2.1.symm (by rw [w.2.2.2.2.2.1, i2]; congr 1; omega) w.2.2.2.2.2.2.1.symm w.2.2.2.2.2.2.2.1.symm w.2.2.2.2.2.2.2.2.1.symm w.2.2.2.2.2.2.2.2.2.1.symm w.2.2.2.2.2.2.2.2.2.2.symm q.symm)
         | (have q : hnB p f t l rs = false := hn_f (by rintro ⟨z1, z2, z3⟩; simp_all)
            have w := hn_no q
            exact hp_eq w.1.symm w.2.1.symm w.2.2.1.symm w.2.2.2.1.symm w.2.2.2.2.1.symm w.2.2.2.2.2.1.symm w.2.2.2.2.2.2.1.symm w.2.2.2.2.2.2.2.1.symm w.2.2.2.2.2.2.2.2.1.symm w.2.2.2.2.2.2.2.2.2.1.symm w.2.2.2.2.2.2.2.2.2.2.symm q.symm)
         | done)
    | (show (_ : List (List L)) = _
       first
         | (rw [i2]; exact rep_up i0)
         | exact rfl
         | done)
    | exact ⟨hr, by omega⟩
    | omega
    | (show okOrder _ _ = true; kernel_rfl)
    | (rw [i2, List.length_replicate]; exact ⟨by simp only [List.length_cons, List.length_nil]; omega, by simp only [List.length_cons, List.length_nil]; omega⟩)
    | exact ⟨True.intro, True.intro⟩
    | trivial
    | trace_state

end Go.V
