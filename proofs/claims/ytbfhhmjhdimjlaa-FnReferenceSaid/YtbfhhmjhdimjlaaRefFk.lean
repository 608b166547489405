/-
  Contracts of functions, by evaluation of conditions on their code.
-/
import Derived.Test.YtbfhhmjhdimjlaaS8
import Derived.Test.YtbfhhmjhdimjlaaH23
import Derived.Test.YtbfhhmjhdimjlaaRefBk
import Derived.Test.YtbfhhmjhdimjlaaDelRk

set_option linter.all false
namespace Go.V
open Go Go.Proofs
set_option maxRecDepth 1000000
set_option maxHeartbeats 8000000
namespace T5
structure Fns where
  rfI : List (List L) → Int → Int
  delL : List (List L) → Int → Int → List (List L)
def F0 : Fns := ⟨rfI, delL⟩
def ct (F : Fns) : CT := fun f ds => match f with
  | 47 => match ds with
    | [.agg [.v (.int .i64 n), .s 2 os]] => some (fun _ => Rw tO os ∧ cntE os ≤ 1099511627776, [.agg [.v (.int .i64 n), .s 2 os]])
    | _ => none
  | 48 => match ds with
    | [.agg [.v (.int .i64 n), .s 2 os], .one (.v (.int .i64 id))] => some (fun _ => Rw tO os ∧ os.length ≤ 1099511627776, [.one (.v (.int .i64 (F.rfI os id)))])
    | _ => none
  | _ => none
theorem ct_ok : CTok Try.prog (ct F0) := by
  intro f ds pre res h hp
  unfold ct at h
  split at h
  · split at h
    · cases h; exact c_impl_copyRef _ _ hp
    · cases h
  · split at h
    · cases h; exact c_impl_refIndex _ _ _ hp
    · cases h
  · cases h
def mt : Fns → MT := noMT
theorem mt_ok : MTok Try.prog (mt F0) := noMT_ok
def pt : Fns → PT := noPT
theorem pt_ok : PTok Try.prog (pt F0) := noPT_ok
def nt : Fns → NT := noNT
theorem nt_ok : NTok Try.prog (nt F0) := noNT_ok
def ot (F : Fns) : OT := fun f => match f with
  | 49 => some fun ds => match ds with
    | [.one (.s 2 es), .one (.v (.int .i64 i)), .one (.v (.int .i64 j))] => some (fun _ => 0 ≤ i ∧ i ≤ j ∧ j ≤ es.length, [.one (.s 2 (F.delL es i j))])
    | _ => none
  | _ => none
theorem ot_ok : OTok Try.prog (ot F0) := by
  intro f mk h ds pre hs hm hp
  unfold ot at h
  split at h
  · cases h; dsimp only at hm; split at hm
    · cases hm; exact c_slices_Delete_loop_example_g00978_impl_RefObj_loop_example_g00978_impl_RefObj _ _ _ hp
    · cases hm
  · cases h
end T5
theorem c_impl_RefFree (n : Int) (os : List (List L)) (id : Int) (hp : Rw tO os ∧ cntE os ≤ 1099511627776) : Ctr Try.prog 21 [.agg [.v (.int .i64 n), .s 2 os], .one (.v (.int .i64 id))] [.agg [.v (.int .i64 n), .s 2 (rdO os id)], .one (.v (.bool (rdB os id)))] := by
  obtain ⟨hw, hn⟩ := hp
  have hl := len_cnt (es := os)
  have hb0 := rf_bd (os := os) (id := id)
  refine ctr_of (ctF := T5.ct) (mtF := T5.mt) (ptF := T5.pt) (ntF := T5.nt) (otF := T5.ot) (F0 := T5.F0) tabOk T5.ct_ok T5.mt_ok T5.pt_ok T5.nt_ok T5.ot_ok mixed 24 _ [34, 4] [.cell 4 34, .tmp 5] Try.func21 rfl rfl rfl rfl rfl ?_
  intro O r F hO hr hF
  cbv
  repeat' first | refine And.intro ?_ ?_ | (refine caseB_intro (fun hb => ?_) (fun hb => ?_) <;> cbv)
  all_goals ((try subst hos); subst hO hr hF; (try simp only [stdO, SS, sub_all, ad_zero] at *); (try simp only [ncast] at *); (try simp only [Int.ofNat_eq_natCast] at *))
  all_goals (try simp only [T5.F0] at *)
  all_goals try rw [up64 (by omega) (by omega)]
  all_goals try rw [up64 (by omega) (by omega)] at *
  all_goals first
    | (show (_ : List DV) = _
       first
         | (have q := rd_no (os := os) (id := id) (by assumption); exact rb_eq rfl q.1.symm q.2.symm)
         | (have q := rd_yes (os := os) (id := id) (by assumption); exact rb_eq rfl q.1.symm q.2.symm)
         | done)
    | exact ⟨hw, hn⟩
    | exact ⟨hw, by omega⟩
    | exact ⟨by omega, by omega, by omega⟩
    | (show okOrder _ _ = true; kernel_rfl)
    | exact ⟨True.intro, True.intro⟩
    | exact ⟨trivial, trivial⟩
    | omega
    | done

end Go.V
