/-
  Contracts of functions, by evaluation of conditions on their code.
-/
import Derived.Test.YtbdgkoalfnehoaaGreatS6
import Derived.Test.YtbdgkoalfnehoaaGreatH15
import Derived.Test.YtbdgkoalfnehoaaGreatKerCg

set_option linter.all false
namespace Go.V
open Go Go.Proofs
set_option maxRecDepth 1000000
set_option maxHeartbeats 8000000
namespace N7
structure Fns where
  hnC : Int → Int → Int → Int → List (List L) → List (List L)
  hnU : Int → Int → Int → Int → List (List L) → List (List L)
  hnE : Int → Int → Int → Int → List (List L) → List (List L)
  hnR : Int → Int → Int → Int → List (List L) → List (List L)
  hnF : Int → Int → Int → Int → List (List L) → List (List L)
  hnK : Int → Int → Int → Int → List (List L) → List (List L)
  hnM : Int → Int → Int → Int → List (List L) → List (List L)
  hnI : Int → Int → Int → Int → List (List L) → List (List L)
  hnQ : Int → Int → Int → Int → List (List L) → Int
  hnL : Int → Int → Int → Int → List (List L) → Int
  hnN : Int → Int → Int → Int → List (List L) → Int
  hnB : Int → Int → Int → Int → List (List L) → Bool
def F0 : Fns := ⟨hnC, hnU, hnE, hnR, hnF, hnK, hnM, hnI, hnQ, hnL, hnN, hnB⟩
def ct (F : Fns) : CT := fun f ds => match f with
  | 18 => match ds with
    | [.one (.v (.int .i64 p)), .one (.v (.int .i64 f)), .one (.v (.int .i64 t)), .one (.v (.int .i64 l)), .one (.s 1 rs)] => some (fun _ => Rw [tI] rs ∧ rs.length ≤ 1099511627776, [.agg [.s 1 (F.hnC p f t l rs), .s 1 (F.hnU p f t l rs), .s 2 (F.hnE p f t l rs), .v (.int .i64 0), .s 1 (F.hnR p f t l rs), .s 2 (F.hnF p f t l rs), .s 3 [], .s 3 [], .s 4 [], .s 1 (F.hnK p f t l rs), .s 1 (F.hnM p f t l rs), .s 1 (F.hnI p f t l rs), .v (.int .i64 (F.hnQ p f t l rs)), .s 3 [], .v (.int .i64 0), .v (.int .i64 0), .v (.int .i64 (F.hnL p f t l rs)), .v (.int .i64 (F.hnN p f t l rs)), .v (.bool false), .v (.int .i64 0), .v (.int .i64 0), .s 1 [], .v (.int .i64 0), .v (.int .i64 0)], .one (.v (.bool (F.hnB p f t l rs)))])
    | _ => none
  | 95 => match ds with
    | [] => some (fun _ => True, [.agg [.v (.int .i64 1), .s 2 []]])
    | _ => none
  | 16 => match ds with
    | [.one (.v (.int .i64 p)), .one (.v (.int .i64 f)), .one (.v (.int .i64 t)), .one (.v (.int .i64 l)), .one (.s 1 rs)] => some (fun _ => Rw [tI] rs ∧ rs.length ≤ 1099511627776, [.agg [.s 1 (F.hnC p f t l rs), .s 1 (F.hnU p f t l rs), .s 2 (F.hnE p f t l rs), .v (.int .i64 0), .s 1 (F.hnR p f t l rs), .s 2 (F.hnF p f t l rs), .s 3 [], .s 3 [], .s 4 [], .s 1 (F.hnK p f t l rs), .s 1 (F.hnM p f t l rs), .s 1 (F.hnI p f t l rs), .v (.int .i64 (F.hnQ p f t l rs)), .s 3 [], .v (.int .i64 0), .v (.int .i64 0), .v (.int .i64 (F.hnL p f t l rs)), .v (.int .i64 (F.hnN p f t l rs)), .v (.bool false), .v (.int .i64 0), .v (.int .i64 0), .s 1 [], .v (.int .i64 0), .v (.int .i64 0)], .one (.v (.bool (F.hnB p f t l rs)))])
    | _ => none
  | 94 => match ds with
    | [] => some (fun _ => True, [.agg [.v (.int .i64 1), .s 2 []]])
    | _ => none
  | _ => none
theorem ct_ok : CTok Tryz.prog (ct F0) := by
  intro f ds pre res h hp
  unfold ct at h
  split at h
  · split at h
    · cases h; exact c_impl_HeapNew _ _ _ _ _ hp
    · cases h
  · split at h
    · cases h; exact c_impl_RefNew  hp
    · cases h
  · split at h
    · cases h; exact c_spec_HeapNew _ _ _ _ _ hp
    · cases h
  · split at h
    · cases h; exact c_spec_RefNew  hp
    · cases h
  · cases h
def mt : Fns → MT := noMT
theorem mt_ok : MTok Tryz.prog (mt F0) := noMT_ok
def pt : Fns → PT := noPT
theorem pt_ok : PTok Tryz.prog (pt F0) := noPT_ok
end N7
theorem c_impl_WorldNew (p f t l : Int) (rs : List (List L)) (hp : Rw [tI] rs ∧ rs.length ≤ 1099511627776) : Ctr Tryz.prog 28 [.agg [.v (.int .i64 p), .v (.int .i64 f), .v (.int .i64 t), .v (.int .i64 l), .s 1 rs]] [.agg [.s 1 (hnC p f t l rs), .s 1 (hnU p f t l rs), .s 2 (hnE p f t l rs), .v (.int .i64 0), .s 1 (hnR p f t l rs), .s 2 (hnF p f t l rs), .s 3 [], .s 3 [], .s 4 [], .s 1 (hnK p f t l rs), .s 1 (hnM p f t l rs), .s 1 (hnI p f t l rs), .v (.int .i64 (hnQ p f t l rs)), .s 3 [], .v (.int .i64 0), .v (.int .i64 0), .v (.int .i64 (hnL p f t l rs)), .v (.int .i64 (hnN p f t l rs)), .v (.bool false), .v (.int .i64 0), .v (.int .i64 0), .s 1 [], .v (.int .i64 0), .v (.int .i64 0), .v (.int .i64 (hnN p f t l rs)), .s 2 []], .one (.v (.bool (hnB p f t l rs)))] := by
  obtain ⟨hr, hl⟩ := hp
  refine ctr_of (ctF := N7.ct) (mtF := N7.mt) (ptF := N7.pt) (F0 := N7.F0) tabOk N7.ct_ok N7.mt_ok N7.pt_ok mixed 26 _ [98, 4] [.cell 2 98, .tmp 3] Tryz.func28 rfl rfl rfl rfl rfl ?_
  intro O r F hO hr hF
  cbv
  repeat' first | refine And.intro ?_ ?_ | (refine caseB_intro (fun hb => ?_) (fun hb => ?_) <;> cbv)
  all_goals ((try subst hos); subst hO hr hF; (try simp only [stdO, SS, sub_all, ad_zero] at *); (try simp only [ncast] at *); (try simp only [Int.ofNat_eq_natCast] at *))
  all_goals (try simp only [N7.F0] at *)
  all_goals first
    | (show (_ : List DV) = _
       first
         | (have q : hnB p f t l rs = true := by assumption
            have w := hn_yes q
            exact wd_eq rfl rfl rfl rfl rfl rfl rfl rfl rfl rfl rfl w.2.2.2.2.2.2.2.2.2.2.symm q.symm)
         | (have q : hnB p f t l rs = false := by assumption
            have w := hn_no q
            exact wd_eq w.1.symm w.2.1.symm w.2.2.1.symm w.2.2.2.1.symm w.2.2.2.2.1.symm w.2.2.2.2.2.1.symm w.2.2.2.2.2.2.1.symm w.2.2.2.2.2.2.2.1.symm w.2.2.2.2.2.2.2.2.1.symm w.2.2.2.2.2.2.2.2.2.1.symm w.2.2.2.2.2.2.2.2.2.2.symm w.2.2.2.2.2.2.2.2.2.2.symm q.symm)
         | done)
    | exact ⟨hr, by omega⟩
    | (show okOrder _ _ = true; kernel_rfl)
    | exact ⟨True.intro, True.intro⟩
    | trivial
    | trace_state
theorem c_spec_WorldNew (p f t l : Int) (rs : List (List L)) (hp : Rw [tI] rs ∧ rs.length ≤ 1099511627776) : Ctr Tryz.prog 26 [.agg [.v (.int .i64 p), .v (.int .i64 f), .v (.int .i64 t), .v (.int .i64 l), .s 1 rs]] [.agg [.s 1 (hnC p f t l rs), .s 1 (hnU p f t l rs), .s 2 (hnE p f t l rs), .v (.int .i64 0), .s 1 (hnR p f t l rs), .s 2 (hnF p f t l rs), .s 3 [], .s 3 [], .s 4 [], .s 1 (hnK p f t l rs), .s 1 (hnM p f t l rs), .s 1 (hnI p f t l rs), .v (.int .i64 (hnQ p f t l rs)), .s 3 [], .v (.int .i64 0), .v (.int .i64 0), .v (.int .i64 (hnL p f t l rs)), .v (.int .i64 (hnN p f t l rs)), .v (.bool false), .v (.int .i64 0), .v (.int .i64 0), .s 1 [], .v (.int .i64 0), .v (.int .i64 0), .v (.int .i64 (hnN p f t l rs)), .s 2 []], .one (.v (.bool (hnB p f t l rs)))] := by
  obtain ⟨hr, hl⟩ := hp
  refine ctr_of (ctF := N7.ct) (mtF := N7.mt) (ptF := N7.pt) (F0 := N7.F0) tabOk N7.ct_ok N7.mt_ok N7.pt_ok mixed 26 _ [98, 4] [.cell 2 98, .tmp 3] Tryz.func26 rfl rfl rfl rfl rfl ?_
  intro O r F hO hr hF
  cbv
  repeat' first | refine And.intro ?_ ?_ | (refine caseB_intro (fun hb => ?_) (fun hb => ?_) <;> cbv)
  all_goals ((try subst hos); subst hO hr hF; (try simp only [stdO, SS, sub_all, ad_zero] at *); (try simp only [ncast] at *); (try simp only [Int.ofNat_eq_natCast] at *))
  all_goals (try simp only [N7.F0] at *)
  all_goals first
    | (show (_ : List DV) = _
       first
         | (have q : hnB p f t l rs = true := by assumption
            have w := hn_yes q
            exact wd_eq rfl rfl rfl rfl rfl rfl rfl rfl rfl rfl rfl w.2.2.2.2.2.2.2.2.2.2.symm q.symm)
         | (have q : hnB p f t l rs = false := by assumption
            have w := hn_no q
            exact wd_eq w.1.symm w.2.1.symm w.2.2.1.symm w.2.2.2.1.symm w.2.2.2.2.1.symm w.2.2.2.2.2.1.symm w.2.2.2.2.2.2.1.symm w.2.2.2.2.2.2.2.1.symm w.2.2.2.2.2.2.2.2.1.symm w.2.2.2.2.2.2.2.2.2.1.symm w.2.2.2.2.2.2.2.2.2.2.symm w.2.2.2.2.2.2.2.2.2.2.symm q.symm)
         | done)
    | exact ⟨hr, by omega⟩
    | (show okOrder _ _ = true; kernel_rfl)
    | exact ⟨True.intro, True.intro⟩
    | trivial
    | trace_state

end Go.V
