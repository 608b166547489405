/-
  Contracts of functions, by evaluation of conditions on their code.
-/
import Derived.Test.YtbfhhmjhdimjlaaS8
import Derived.Test.YtbfhhmjhdimjlaaRefFk

set_option linter.all false
namespace Go.V
open Go Go.Proofs
set_option maxRecDepth 1000000
set_option maxHeartbeats 8000000
namespace FnExactRefFreeC
structure Fns where
  szN : List (List (List L)) → Int → Int
  kN : List (List (List L)) → Int → Int
  mkN : List (List L) → Int → List (List L)
  rdO : List (List L) → Int → List (List L)
  rdB : List (List L) → Int → Bool
def F0 : Fns := ⟨szN0, kN0, mkN0, rdO, rdB⟩
def ct (F : Fns) : CT := fun f ds => match f with
  | 23 => match ds with
    | [.agg [.v (.int .i64 a0), .s 2 a1], .one (.v (.int .i64 left))] => some (fun _ => Rw [tI, .sl [tI]] a1 ∧ 0 ≤ left ∧ left ≤ 1048576, [.one (.v (.int .i64 (F.szN [a1] left)))])
    | _ => none
  | 25 => match ds with
    | [.agg [.v (.int .i64 a0), .s 2 a1]] => some (fun _ => Rw [tI, .sl [tI]] a1 ∧ cntRs [a1] ≤ 1048576, [.agg [.v (.int .i64 a0), .s 2 a1]])
    | _ => none
  | 26 => match ds with
    | [.agg [.v (.int .i64 a0), .s 2 a1], d] => some (fun _ => d = .agg [.v (.int .i64 a0), .s 2 a1] ∧ Rw [tI, .sl [tI]] a1 ∧ cntRs [a1] ≤ 1099511627776, [.one (.v (.bool true))])
    | _ => none
  | 28 => match ds with
    | [.agg [.v (.int .i64 m0), .s 2 m1], .one (.v (.int .i64 k))] => some (fun _ => (∃ a1, m1 = mkN0 a1 k ∧ Rw [tI, .sl [tI]] a1 ∧ cntE a1 ≤ 1099511627776) ∧ 0 ≤ k ∧ kN0 [m1] k ≤ 1152921504606846976, [.one (.v (.int .i64 (F.kN [m1] k)))])
    | _ => none
  | 29 => match ds with
    | [.agg [.v (.int .i64 n), .s 2 os], .one (.v (.int .i64 id))] => some (fun _ => Rw tO os ∧ cntE os ≤ 1099511627776, [.agg [.v (.int .i64 n), .s 2 (F.rdO os id)], .one (.v (.bool (F.rdB os id)))])
    | _ => none
  | 21 => match ds with
    | [.agg [.v (.int .i64 n), .s 2 os], .one (.v (.int .i64 id))] => some (fun _ => Rw tO os ∧ cntE os ≤ 1099511627776, [.agg [.v (.int .i64 n), .s 2 (F.rdO os id)], .one (.v (.bool (F.rdB os id)))])
    | _ => none
  | _ => none
theorem ct_ok : CTok Try.prog (ct F0) := by
  intro f ds pre res h hp
  unfold ct at h
  split at h
  · split at h
    · cases h; exact c_laws_szRefHeap _ _ _ hp
    · cases h
  · split at h
    · cases h; exact c_laws_toRefHeap _ _ hp
    · cases h
  · split at h
    · cases h; exact c_laws_eqRefHeap _ _ _ hp
    · cases h
  · split at h
    · cases h; exact c_laws_heldRefHeap _ _ _ hp
    · cases h
  · split at h
    · cases h; exact c_spec_RefFree _ _ _ hp
    · cases h
  · split at h
    · cases h; exact c_impl_RefFree _ _ _ hp
    · cases h
  · cases h
def mt (F : Fns) : MT := fun f => match f with
  | 27 => some fun ds => match ds with
    | [.agg [.v (.int .i64 a0), .s 2 a1], .one (.v (.int .i64 k))] => some (fun _ => Rw [tI, .sl [tI]] a1 ∧ cntRs [a1] ≤ 1099511627776 ∧ 0 ≤ k ∧ kN0 [a1] k ≤ 1152921504606846976, [.s 2 (F.mkN a1 k)], [.one (.v (.int .i64 (F.kN [a1] k)))])
    | _ => none
  | _ => none
theorem mt_ok : MTok Try.prog (mt F0) := by
  intro f mk h ds pre outs res hm hp
  unfold mt at h
  split at h
  · cases h; dsimp only at hm; split at hm
    · cases hm; exact c_laws_markRefHeap _ _ _ hp
    · cases hm
  · cases h
def B : TB Try.prog := {Φ := Fns, F0 := F0, ct := ct, hc := ct_ok, mt := mt, hm := mt_ok}
end FnExactRefFreeC
theorem c_laws_FnExactRefFree (a0 : Int) (a1 : List (List L)) (a2 : Int) (hp : (-9223372036854775808 ≤ a0 ∧ a0 ≤ 9223372036854775807) ∧ Rw [tI, .sl [tI]] a1 ∧ (-9223372036854775808 ≤ a2 ∧ a2 ≤ 9223372036854775807)) : Ctr Try.prog 7 [.agg [.v (.int .i64 a0), .s 2 a1], .one (.v (.int .i64 a2))] [.one (.v (.bool true))] := by
  obtain ⟨ha0, ha1, ha2⟩ := hp
  by_cases hs : cntRs [a1] ≤ 1048576
  case neg =>
    have hsz : szN0 [a1] 1048576 < 0 := szN_neg.2 (by omega)
    refine ctr_b FnExactRefFreeC.B tabOk mixed 101 _ [4] [.tmp 4] Try.func7 rfl rfl rfl rfl rfl ?_
    intro O r (F : FnExactRefFreeC.Fns) hO hr (hF : F = FnExactRefFreeC.F0)
    cbv
    refine And.intro ?_ (caseB_intro (fun hb => ?_) (fun hb => ?_))
    · ((try subst hos); subst hO hr hF; (try simp only [stdO, SS, sub_all, ad_zero] at *); (try simp only [ncast] at *); (try simp only [onc] at *))
      exact ⟨ha1, by omega, by omega⟩
    · cbv
      repeat' first | refine And.intro ?_ ?_ | (refine caseB_intro (fun hb => ?_) (fun hb => ?_) <;> cbv)
      all_goals ((try subst hos); subst hO hr hF; (try simp only [stdO, SS, sub_all, ad_zero] at *); (try simp only [ncast] at *); (try simp only [onc] at *))
      all_goals first | trivial | exact rfl
    · exfalso
      ((try subst hos); subst hO hr hF; (try simp only [stdO, SS, sub_all, ad_zero] at *); (try simp only [ncast] at *); (try simp only [onc] at *))
      simp only [FnExactRefFreeC.F0] at hb
      omega
  case pos =>
  have hsz := szN_no hs
  obtain ⟨hR0, hRc⟩ := rd_wf (id := a2) ha1 hs
  have hsc : cntE a1 ≤ 1048576 := cnt_mem hs (by simp)
  have hRk : kN0 [rdO a1 a2] 1 ≤ 1152921504606846976 := marksAll (by intro r hr; simp only [List.mem_cons, List.not_mem_nil, or_false] at hr; subst hr; exact hR0.marks (by decide)) hRc
  have hAk : kN0 [a1] 1 ≤ 1152921504606846976 := marksAll (by intro r hr; simp only [List.mem_cons, List.not_mem_nil, or_false] at hr; subst hr; exact ha1.marks (by decide)) (by omega)
  have hM : kN0 [mkN0 (rdO a1 a2) 1] 1 = kN0 [rdO a1 a2] 1 := kN_mkAll (rs := [rdO a1 a2]) (k := 1) (k' := 1)
  have hRm : cntE (rdO a1 a2) ≤ 1099511627776 := cnt_mem hRc (by simp)
  refine ctr_b FnExactRefFreeC.B tabOk mixed 101 _ [4] [.tmp 4] Try.func7 rfl rfl rfl rfl rfl ?_
  intro O r (F : FnExactRefFreeC.Fns) hO hr (hF : F = FnExactRefFreeC.F0)
  cbv
  repeat' first | refine And.intro ?_ ?_ | (refine caseB_intro (fun hb => ?_) (fun hb => ?_) <;> cbv)
  all_goals ((try subst hos); subst hO hr hF; (try simp only [stdO, SS, sub_all, ad_zero] at *); (try simp only [ncast] at *); (try simp only [onc] at *))
  all_goals (try simp only [FnExactRefFreeC.F0, subI_mk] at *)
  all_goals first
    | exact True.intro
    | (show okOrder _ _ = true; kernel_rfl)
    | exact ⟨True.intro, True.intro⟩
    | exact ⟨ha1, by omega, by omega⟩
    | exact ⟨ha1, hs⟩
    | exact ha1
    | exact ⟨trivial, ha1, by omega⟩
    | exact ⟨rfl, ha1, by omega⟩
    | exact ⟨ha1, by omega, by omega, hAk⟩
    | exact ⟨trivial, hR0, hRc⟩
    | exact ⟨rfl, hR0, hRc⟩
    | exact ⟨hR0, hRc, by omega, hRk⟩
    | exact ⟨⟨_, rfl, hR0, hRm⟩, by omega, le_of_eq_of_le hM hRk⟩
    | exact mkN_length
    | exact absurd (by assumption) (kN_pos (by omega))
    | exact absurd hM (by assumption)
    | exact absurd (by assumption) (by rw [hM]; exact kN_pos (by omega))
    | exact ⟨ha1, by omega⟩
    | exact rfl
    | exact absurd rfl (by assumption)
    | (exfalso; omega)
    | trivial
    | trace_state
theorem r_FnExactRefFree (recs : List (List L)) (h : confs [(true, [tI, .sl [tI, .sl [tI]]]), (false, [tI])] recs) : Ctr Try.prog 7 (argDVs [(true, [tI, .sl [tI, .sl [tI]]]), (false, [tI])] recs) [.one (.v (.bool true))] := by
  match recs, h with
  | [[.v (.int _ a0), .s _ a1], [.v (.int _ a2)]], h =>
    simp only [confs, confR, confL] at h
    obtain ⟨⟨⟨rfl, ha0⟩, ⟨rfl, ha1, ka1⟩, _⟩, ⟨⟨rfl, ha2⟩, _⟩, _⟩ := h
    exact c_laws_FnExactRefFree a0 a1 a2 ⟨ihas ha0, ⟨ha1, ka1⟩, ihas ha2⟩

end Go.V
