/-
  Contracts of functions, by evaluation of conditions on their code.
-/
import Derived.Test.YtbfhhmjhdimjlaaS8
import Derived.Test.YtbfhhmjhdimjlaaH22
import Derived.Test.YtbfhhmjhdimjlaaRefAk

set_option linter.all false
namespace Go.V
open Go Go.Proofs
set_option maxRecDepth 1000000
set_option maxHeartbeats 8000000
namespace T4
structure Fns where
  inR : Int → Int → Int → Bool
  rfI : List (List L) → Int → Int
def F0 : Fns := ⟨inR, rfI⟩
def ct (F : Fns) : CT := fun f ds => match f with
  | 47 => match ds with
    | [.agg [.v (.int .i64 n), .s 2 os]] => some (fun _ => Rw tO os ∧ cntE os ≤ 1099511627776, [.agg [.v (.int .i64 n), .s 2 os]])
    | _ => none
  | 46 => match ds with
    | [.one (.v (.int .i64 x)), .one (.v (.int .i64 a)), .one (.v (.int .i64 b))] => some (fun _ => True, [.one (.v (.bool (F.inR x a b)))])
    | _ => none
  | 48 => match ds with
    | [.agg [.v (.int .i64 n), .s 2 os], .one (.v (.int .i64 id))] => some (fun _ => Rw tO os ∧ os.length ≤ 1099511627776, [.one (.v (.int .i64 (F.rfI os id)))])
    | _ => none
  | 51 => match ds with
    | [.agg [.v (.int .i64 n), .s 2 os]] => some (fun _ => Rw tO os ∧ cntE os ≤ 1099511627776, [.agg [.v (.int .i64 n), .s 2 os]])
    | _ => none
  | 53 => match ds with
    | [.one (.v (.int .i64 x)), .one (.v (.int .i64 a)), .one (.v (.int .i64 b))] => some (fun _ => True, [.one (.v (.bool (F.inR x a b)))])
    | _ => none
  | 52 => match ds with
    | [.agg [.v (.int .i64 n), .s 2 os], .one (.v (.int .i64 id))] => some (fun _ => Rw tO os ∧ os.length ≤ 1099511627776, [.one (.v (.int .i64 (F.rfI os id)))])
    | _ => none
  | _ => none
theorem ct_ok : CTok Try.prog (ct F0) := by
  intro f ds pre res h hp
  unfold ct at h
  split at h
  · split at h
    · cases h; exact c_impl_copyRef _ _ hp
    · cases h
  · split at h
    · cases h; exact c_impl_between _ _ _ hp
    · cases h
  · split at h
    · cases h; exact c_impl_refIndex _ _ _ hp
    · cases h
  · split at h
    · cases h; exact c_spec_l33Copy _ _ hp
    · cases h
  · split at h
    · cases h; exact c_spec_l01In _ _ _ hp
    · cases h
  · split at h
    · cases h; exact c_spec_l33At _ _ _ hp
    · cases h
  · cases h
def B : TB Try.prog := tb ct_ok
end T4
theorem c_impl_RefTrim (n : Int) (os : List (List L)) (id sz : Int) (hp : Rw tO os ∧ cntE os ≤ 1099511627776) : Ctr Try.prog 22 [.agg [.v (.int .i64 n), .s 2 os], .one (.v (.int .i64 id)), .one (.v (.int .i64 sz))] [.agg [.v (.int .i64 n), .s 2 (rtO os id sz)], .one (.v (.bool (rtB os id sz)))] := by
  obtain ⟨hw, hn⟩ := hp
  have hl := len_cnt (es := os)
  have hb0 := rf_bd (os := os) (id := id)
  refine ctr_b T4.B tabOk mixed 44 _ [34, 4] [.cell 6 34, .tmp 7] Try.func22 rfl rfl rfl rfl rfl ?_
  intro O r (F : T4.Fns) hO hr (hF : F = T4.F0)
  cbv
  repeat' first | refine And.intro ?_ ?_ | (refine caseB_intro (fun hb => ?_) (fun hb => ?_) <;> cbv)
  all_goals ((try subst hos); subst hO hr hF; (try simp only [stdO, SS, sub_all, ad_zero] at *); (try simp only [ncast] at *); (try simp only [onc] at *))
  all_goals (try simp only [T4.F0, ps_o] at *)
  all_goals try (have hoc := obj_cnt hw (i := rfI os id) (by omega) (by omega); have hol := len_cnt (es := gsI os (rfI os id) 1); have hos := obj_sub hw (i := rfI os id) (by omega) (by omega))
  all_goals try (have hz := inR_t.1 (‹inR sz 1 (gsI os (rfI os id) 1).length = true›))
  all_goals (try simp only [show Int.toNat 0 = 0 from rfl, sub_t, List.map, List.nil_append] at *)
  all_goals first
    | (show (_ : List DV) = _
       first
         | (have q := rt_no (os := os) (id := id) (sz := sz) (by rintro ⟨a, b⟩; first | omega | simp_all); exact rb_eq rfl q.1.symm q.2.symm)
         | (have q := rt_yes (os := os) (id := id) (sz := sz) (by omega) (by assumption); exact rb_eq rfl ((up_t hw (by omega) (by omega)).trans q.1.symm) q.2.symm)
         | done)
    | omega
    | (show okOrder _ _ = true; kernel_rfl)
    | exact ⟨hw, hn⟩
    | exact ⟨hw, by omega⟩
    | (refine ⟨by omega, by omega, Eq.trans (Rw.eta (fs := _) (by (first | assumption | exact Rw.sub (by first | assumption | exact Rw.sub (by assumption) (by omega) rfl) (by omega) rfl)) (by omega) (by omega)) ?_⟩; rfl)
    | exact get_o hw (by omega) (by omega)
    | exact ⟨by omega, by omega, by omega, _, getS_o hw (by omega) (by omega)⟩
    | exact ⟨True.intro, rfl, getS_o hw (by omega) (by omega), hos.scal rfl⟩
    | exact ⟨trivial, trivial, getS_o hw (by omega) (by omega), hos.scal rfl⟩
    | exact scal_tk hos
    | exact ⟨_, _, getO hw (by omega) (by omega), Nat.le_refl _⟩
    | (simp only [List.length_nil, List.length_take]; omega)
    | exact ⟨trivial, trivial⟩
    | trivial
    | done
theorem c_spec_RefTrim (n : Int) (os : List (List L)) (id sz : Int) (hp : Rw tO os ∧ cntE os ≤ 1099511627776) : Ctr Try.prog 24 [.agg [.v (.int .i64 n), .s 2 os], .one (.v (.int .i64 id)), .one (.v (.int .i64 sz))] [.agg [.v (.int .i64 n), .s 2 (rtO os id sz)], .one (.v (.bool (rtB os id sz)))] := by
  obtain ⟨hw, hn⟩ := hp
  have hl := len_cnt (es := os)
  have hb0 := rf_bd (os := os) (id := id)
  refine ctr_b T4.B tabOk mixed 46 _ [34, 4] [.cell 6 34, .tmp 7] Try.func24 rfl rfl rfl rfl rfl ?_
  intro O r (F : T4.Fns) hO hr (hF : F = T4.F0)
  cbv
  repeat' first | refine And.intro ?_ ?_ | (refine caseB_intro (fun hb => ?_) (fun hb => ?_) <;> cbv)
  all_goals ((try subst hos); subst hO hr hF; (try simp only [stdO, SS, sub_all, ad_zero] at *); (try simp only [ncast] at *); (try simp only [onc] at *))
  all_goals (try simp only [T4.F0, ps_o] at *)
  all_goals try (have hoc := obj_cnt hw (i := rfI os id) (by omega) (by omega); have hol := len_cnt (es := gsI os (rfI os id) 1); have hos := obj_sub hw (i := rfI os id) (by omega) (by omega))
  all_goals try (have hz := inR_t.1 (‹inR sz 1 (gsI os (rfI os id) 1).length = true›))
  all_goals (try simp only [show Int.toNat 0 = 0 from rfl, sub_t, List.map, List.nil_append] at *)
  all_goals first
    | (show (_ : List DV) = _
       first
         | (have q := rt_no (os := os) (id := id) (sz := sz) (by rintro ⟨a, b⟩; first | omega | simp_all); exact rb_eq rfl q.1.symm q.2.symm)
         | (have q := rt_yes (os := os) (id := id) (sz := sz) (by omega) (by assumption); exact rb_eq rfl ((up_t hw (by omega) (by omega)).trans q.1.symm) q.2.symm)
         | done)
    | omega
    | (show okOrder _ _ = true; kernel_rfl)
    | exact ⟨hw, hn⟩
    | exact ⟨hw, by omega⟩
    | (refine ⟨by omega, by omega, Eq.trans (Rw.eta (fs := _) (by (first | assumption | exact Rw.sub (by first | assumption | exact Rw.sub (by assumption) (by omega) rfl) (by omega) rfl)) (by omega) (by omega)) ?_⟩; rfl)
    | exact get_o hw (by omega) (by omega)
    | exact ⟨by omega, by omega, by omega, _, getS_o hw (by omega) (by omega)⟩
    | exact ⟨True.intro, rfl, getS_o hw (by omega) (by omega), hos.scal rfl⟩
    | exact ⟨trivial, trivial, getS_o hw (by omega) (by omega), hos.scal rfl⟩
    | exact scal_tk hos
    | exact ⟨_, _, getO hw (by omega) (by omega), Nat.le_refl _⟩
    | (simp only [List.length_nil, List.length_take]; omega)
    | exact ⟨trivial, trivial⟩
    | trivial
    | done

end Go.V
