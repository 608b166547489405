/-
  Contracts of functions, by evaluation of conditions on their code.
-/
import Derived.Test.YtbfhhmjhdimjlaaS8
import Derived.Test.YtbfhhmjhdimjlaaH23
import Derived.Test.YtbfhhmjhdimjlaaRefBk
import Derived.Test.YtbfhhmjhdimjlaaDelRk

set_option linter.all false
namespace Go.V
open Go Go.Proofs
set_option maxRecDepth 1000000
set_option maxHeartbeats 8000000
namespace T5
structure Fns where
  rfI : List (List L) → Int → Int
  delL : List (List L) → Int → Int → List (List L)
def F0 : Fns := ⟨rfI, delL⟩
def ct (F : Fns) : CT := fun f ds => match f with
  | 47 => match ds with
    | [.agg [.v (.int .i64 n), .s 2 os]] => some (fun _ => Rw tO os ∧ cntE os ≤ 1099511627776, [.agg [.v (.int .i64 n), .s 2 os]])
    | _ => none
  | 48 => match ds with
    | [.agg [.v (.int .i64 n), .s 2 os], .one (.v (.int .i64 id))] => some (fun _ => Rw tO os ∧ os.length ≤ 1099511627776, [.one (.v (.int .i64 (F.rfI os id)))])
    | _ => none
  | _ => none
theorem ct_ok : CTok Try.prog (ct F0) := by
  intro f ds pre res h hp
  unfold ct at h
  split at h
  · split at h
    · cases h; exact c_impl_copyRef _ _ hp
    · cases h
  · split at h
    · cases h; exact c_impl_refIndex _ _ _ hp
    · cases h
  · cases h
def ot (F : Fns) : OT := fun f => match f with
  | 49 => some fun ds => match ds with
    | [.one (.s 2 es), .one (.v (.int .i64 i)), .one (.v (.int .i64 j))] => some (fun _ => 0 ≤ i ∧ i ≤ j ∧ j ≤ es.length, [.one (.s 2 (F.delL es i j))])
    | _ => none
  | _ => none
theorem ot_ok : OTok Try.prog (ot F0) := by
  intro f mk h ds pre hs hm hp
  unfold ot at h
  split at h
  · cases h; dsimp only at hm; split at hm
    · cases hm; exact c_slices_Delete_loop_example_g00978_impl_RefObj_loop_example_g00978_impl_RefObj _ _ _ hp
    · cases hm
  · cases h
def B : TB Try.prog := {Φ := Fns, F0 := F0, ct := ct, hc := ct_ok, ot := ot, ho := ot_ok}
end T5
theorem c_impl_RefFree (n : Int) (os : List (List L)) (id : Int) (hp : Rw tO os ∧ cntE os ≤ 1099511627776) : Ctr Try.prog 21 [.agg [.v (.int .i64 n), .s 2 os], .one (.v (.int .i64 id))] [.agg [.v (.int .i64 n), .s 2 (rdO os id)], .one (.v (.bool (rdB os id)))] := by
  obtain ⟨hw, hn⟩ := hp
  have hl := len_cnt (es := os)
  have hb0 := rf_bd (os := os) (id := id)
  refine ctr_b T5.B tabOk mixed 24 _ [34, 4] [.cell 4 34, .tmp 5] Try.func21 rfl rfl rfl rfl rfl ?_
  intro O r (F : T5.Fns) hO hr (hF : F = T5.F0)
  cbv
  repeat' first | refine And.intro ?_ ?_ | (refine caseB_intro (fun hb => ?_) (fun hb => ?_) <;> cbv)
  all_goals ((try subst hos); subst hO hr hF; (try simp only [stdO, SS, sub_all, ad_zero] at *); (try simp only [ncast] at *); (try simp only [onc] at *))
  all_goals (try simp only [T5.F0] at *)
  all_goals try rw [up64 (by omega) (by omega)]
  all_goals try rw [up64 (by omega) (by omega)] at *
  all_goals first
    | (show (_ : List DV) = _
       first
         | (have q := rd_no (os := os) (id := id) (by assumption); exact rb_eq rfl q.1.symm q.2.symm)
         | (have q := rd_yes (os := os) (id := id) (by assumption); exact rb_eq rfl q.1.symm q.2.symm)
         | done)
    | exact ⟨hw, hn⟩
    | exact ⟨hw, by omega⟩
    | exact ⟨by omega, by omega, by omega⟩
    | (show okOrder _ _ = true; kernel_rfl)
    | exact ⟨True.intro, True.intro⟩
    | exact ⟨trivial, trivial⟩
    | omega
    | done
namespace T6
structure Fns where
  rfI : List (List L) → Int → Int
def F0 : Fns := ⟨rfI⟩
def ct (F : Fns) : CT := fun f ds => match f with
  | 51 => match ds with
    | [.agg [.v (.int .i64 n), .s 2 os]] => some (fun _ => Rw tO os ∧ cntE os ≤ 1099511627776, [.agg [.v (.int .i64 n), .s 2 os]])
    | _ => none
  | 52 => match ds with
    | [.agg [.v (.int .i64 n), .s 2 os], .one (.v (.int .i64 id))] => some (fun _ => Rw tO os ∧ os.length ≤ 1099511627776, [.one (.v (.int .i64 (F.rfI os id)))])
    | _ => none
  | _ => none
theorem ct_ok : CTok Try.prog (ct F0) := by
  intro f ds pre res h hp
  unfold ct at h
  split at h
  · split at h
    · cases h; exact c_spec_l33Copy _ _ hp
    · cases h
  · split at h
    · cases h; exact c_spec_l33At _ _ _ hp
    · cases h
  · cases h
def B : TB Try.prog := tb ct_ok
end T6
theorem c_spec_RefFree (n : Int) (os : List (List L)) (id : Int) (hp : Rw tO os ∧ cntE os ≤ 1099511627776) : Ctr Try.prog 29 [.agg [.v (.int .i64 n), .s 2 os], .one (.v (.int .i64 id))] [.agg [.v (.int .i64 n), .s 2 (rdO os id)], .one (.v (.bool (rdB os id)))] := by
  obtain ⟨hw, hn⟩ := hp
  have hl := len_cnt (es := os)
  have hb0 := rf_bd (os := os) (id := id)
  refine ctr_b T6.B tabOk mixed 30 _ [34, 4] [.cell 4 34, .tmp 5] Try.func29 rfl rfl rfl rfl rfl ?_
  intro O r (F : T6.Fns) hO hr (hF : F = T6.F0)
  cbv
  repeat' first | refine And.intro ?_ ?_ | (refine caseB_intro (fun hb => ?_) (fun hb => ?_) <;> cbv)
  all_goals ((try subst hos); subst hO hr hF; (try simp only [stdO, SS, sub_all, ad_zero] at *); (try simp only [ncast] at *); (try simp only [onc] at *))
  all_goals (try simp only [T6.F0] at *)
  all_goals try rw [up64 (by omega) (by omega)]
  all_goals (try rw [up64 (by omega) (by omega)] at *)
  all_goals (try simp only [show subI os 0 (Int.toNat 0) ++ (repI ((dfI (rfI os id) 0 : Nat) : Int) [.g, .g] ++ subI os (adI (Int.toNat 0) ((dfI (rfI os id) 0 : Nat) : Int)) os.length) = gpO os (rfI os id) from rfl] at *)
  all_goals try (have gl := gp_len (os := os) (i := rfI os id) (by omega) (by omega); have gs := gp_sub (os := os) (i := rfI os id) (by omega) (by omega))
  all_goals first
    | (show (_ : List DV) = _
       first
         | (have q := rd_no (os := os) (id := id) (by assumption); exact rb_eq rfl q.1.symm q.2.symm)
         | (have q := rd_yes (os := os) (id := id) (by assumption); exact rb_eq rfl (gs.trans q.1.symm) q.2.symm)
         | done)
    | exact ⟨hw, hn⟩
    | exact ⟨hw, by omega⟩
    | exact ⟨by omega, by omega, by omega⟩
    | (show okOrder _ _ = true; kernel_rfl)
    | exact ⟨True.intro, True.intro⟩
    | exact ⟨trivial, trivial⟩
    | (rw [gl]; exact ⟨by omega, by omega, by omega⟩)
    | (show _ ∧ _; simp only [dfI, subI, gl, List.length_nil, List.length_append, List.length_take, List.length_drop]; omega)
    | (simp only [subI, repI, adI, dfI, gl, List.length_append, List.length_take, List.length_drop, List.length_replicate]; omega)
    | omega
    | done

end Go.V
