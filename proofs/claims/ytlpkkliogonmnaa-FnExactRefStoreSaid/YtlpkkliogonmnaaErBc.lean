/-
  Contracts of functions, by evaluation of conditions on their code.
-/
import Derived.Test.YtlpkkliogonmnaaS3
import Derived.Test.YtlpkkliogonmnaaRefAc

set_option linter.all false
namespace Go.V
open Go Go.Proofs
set_option maxRecDepth 1000000
set_option maxHeartbeats 8000000
namespace FnExactRefStoreC
structure Fns where
  szN : List (List (List L)) → Int → Int
  kN : List (List (List L)) → Int → Int
  mkN : List (List L) → Int → List (List L)
  rsO : List (List L) → Int → Int → Int → List (List L)
  rsB : List (List L) → Int → Int → Int → Bool
def F0 : Fns := ⟨szN0, kN0, mkN0, rsO, rsB⟩
def ct (F : Fns) : CT := fun f ds => match f, ds with
  | 24, [.agg [.v (.int .i64 a0), .s 2 a1], .one (.v (.int .i64 left))] => some (fun _ => Rw [tI, .sl [tI]] a1 ∧ 0 ≤ left ∧ left ≤ 1048576, [.one (.v (.int .i64 (F.szN [a1] left)))])
  | 26, [.agg [.v (.int .i64 a0), .s 2 a1]] => some (fun _ => Rw [tI, .sl [tI]] a1 ∧ cntRs [a1] ≤ 1048576, [.agg [.v (.int .i64 a0), .s 2 a1]])
  | 27, [.agg [.v (.int .i64 a0), .s 2 a1], d] => some (fun _ => d = .agg [.v (.int .i64 a0), .s 2 a1] ∧ Rw [tI, .sl [tI]] a1 ∧ cntRs [a1] ≤ 1099511627776, [.one (.v (.bool true))])
  | 29, [.agg [.v (.int .i64 m0), .s 2 m1], .one (.v (.int .i64 k))] => some (fun _ => (∃ a1, m1 = mkN0 a1 k ∧ Rw [tI, .sl [tI]] a1 ∧ cntE a1 ≤ 1099511627776) ∧ 0 ≤ k ∧ kN0 [m1] k ≤ 1152921504606846976, [.one (.v (.int .i64 (F.kN [m1] k)))])
  | 30, [.agg [.v (.int .i64 n), .s 2 os], .one (.v (.int .i64 id)), .one (.v (.int .i64 k)), .one (.v (.int .i64 v))] => some (fun _ => Rw tO os ∧ cntE os ≤ 1099511627776, [.agg [.v (.int .i64 n), .s 2 (F.rsO os id k v)], .one (.v (.bool (F.rsB os id k v)))])
  | 13, [.agg [.v (.int .i64 n), .s 2 os], .one (.v (.int .i64 id)), .one (.v (.int .i64 k)), .one (.v (.int .i64 v))] => some (fun _ => Rw tO os ∧ cntE os ≤ 1099511627776, [.agg [.v (.int .i64 n), .s 2 (F.rsO os id k v)], .one (.v (.bool (F.rsB os id k v)))])
  | _, _ => none
theorem ct_ok : CTok Try.prog (ct F0) := by
  intro f ds pre res h hp
  unfold ct at h
  split at h
  · cases h; exact c_laws_szRefHeap _ _ _ hp
  · cases h; exact c_laws_toRefHeap _ _ hp
  · cases h; exact c_laws_eqRefHeap _ _ _ hp
  · cases h; exact c_laws_heldRefHeap _ _ _ hp
  · cases h; exact c_spec_RefStore _ _ _ _ _ hp
  · cases h; exact c_impl_RefStore _ _ _ _ _ hp
  · cases h
def mt (F : Fns) : MT := fun f => match f with
  | 28 => some fun ds => match ds with
    | [.agg [.v (.int .i64 a0), .s 2 a1], .one (.v (.int .i64 k))] => some (fun _ => Rw [tI, .sl [tI]] a1 ∧ cntRs [a1] ≤ 1099511627776 ∧ 0 ≤ k ∧ kN0 [a1] k ≤ 1152921504606846976, [.s 2 (F.mkN a1 k)], [.one (.v (.int .i64 (F.kN [a1] k)))])
    | _ => none
  | _ => none
theorem mt_ok : MTok Try.prog (mt F0) := by
  intro f mk h ds pre outs res hm hp
  unfold mt at h
  split at h
  · cases h; dsimp only at hm; split at hm
    · cases hm; exact c_laws_markRefHeap _ _ _ hp
    · cases hm
  · cases h
def pt : Fns → PT := noPT
theorem pt_ok : PTok Try.prog (pt F0) := noPT_ok
end FnExactRefStoreC
theorem c_laws_FnExactRefStore (a0 : Int) (a1 : List (List L)) (a2 : Int) (a3 : Int) (a4 : Int) (hp : (-9223372036854775808 ≤ a0 ∧ a0 ≤ 9223372036854775807) ∧ Rw [tI, .sl [tI]] a1 ∧ (-9223372036854775808 ≤ a2 ∧ a2 ≤ 9223372036854775807) ∧ (-9223372036854775808 ≤ a3 ∧ a3 ≤ 9223372036854775807) ∧ (-9223372036854775808 ≤ a4 ∧ a4 ≤ 9223372036854775807)) : Ctr Try.prog 6 [.agg [.v (.int .i64 a0), .s 2 a1], .one (.v (.int .i64 a2)), .one (.v (.int .i64 a3)), .one (.v (.int .i64 a4))] [.one (.v (.bool true))] := by
  obtain ⟨ha0, ha1, ha2, ha3, ha4⟩ := hp
  by_cases hs : cntRs [a1] ≤ 1048576
  case neg =>
    have hsz : szN0 [a1] 1048576 < 0 := szN_neg.2 (by omega)
    refine ctr_of (ctF := FnExactRefStoreC.ct) (mtF := FnExactRefStoreC.mt) (ptF := FnExactRefStoreC.pt) (F0 := FnExactRefStoreC.F0) tabOk FnExactRefStoreC.ct_ok FnExactRefStoreC.mt_ok FnExactRefStoreC.pt_ok mixed 111 _ [4] [.tmp 8] Try.func6 rfl rfl rfl rfl rfl ?_
    intro O r F hO hr hF
    cbv
    refine And.intro ?_ (caseB_intro (fun hb => ?_) (fun hb => ?_))
    · ((try subst hos); subst hO hr hF; (try simp only [stdO, SS, sub_all, ad_zero] at *); (try simp only [ncast] at *); (try simp only [Int.ofNat_eq_natCast] at *))
      exact ⟨ha1, by omega, by omega⟩
    · cbv
      repeat' first | refine And.intro ?_ ?_ | (refine caseB_intro (fun hb => ?_) (fun hb => ?_) <;> cbv)
      all_goals ((try subst hos); subst hO hr hF; (try simp only [stdO, SS, sub_all, ad_zero] at *); (try simp only [ncast] at *); (try simp only [Int.ofNat_eq_natCast] at *))
      all_goals first | trivial | exact rfl
    · exfalso
      ((try subst hos); subst hO hr hF; (try simp only [stdO, SS, sub_all, ad_zero] at *); (try simp only [ncast] at *); (try simp only [Int.ofNat_eq_natCast] at *))
      simp only [FnExactRefStoreC.F0] at hb
      omega
  case pos =>
  have hsz := szN_no hs
  obtain ⟨hR0, hRc⟩ := rs_wf (id := a2) (at_ := a3) (v := a4) ha1 hs
  have hsc : cntE a1 ≤ 1048576 := cnt_mem hs (by simp)
  have hRk : kN0 [rsO a1 a2 a3 a4] 1 ≤ 1152921504606846976 := marksAll (by intro r hr; simp only [List.mem_cons, List.not_mem_nil, or_false] at hr; subst hr; exact hR0.marks (by decide)) hRc
  have hAk : kN0 [a1] 1 ≤ 1152921504606846976 := marksAll (by intro r hr; simp only [List.mem_cons, List.not_mem_nil, or_false] at hr; subst hr; exact ha1.marks (by decide)) (by omega)
  have hM : kN0 [mkN0 (rsO a1 a2 a3 a4) 1] 1 = kN0 [rsO a1 a2 a3 a4] 1 := kN_mkAll (rs := [rsO a1 a2 a3 a4]) (k := 1) (k' := 1)
  have hRm : cntE (rsO a1 a2 a3 a4) ≤ 1099511627776 := cnt_mem hRc (by simp)
  refine ctr_of (ctF := FnExactRefStoreC.ct) (mtF := FnExactRefStoreC.mt) (ptF := FnExactRefStoreC.pt) (F0 := FnExactRefStoreC.F0) tabOk FnExactRefStoreC.ct_ok FnExactRefStoreC.mt_ok FnExactRefStoreC.pt_ok mixed 111 _ [4] [.tmp 8] Try.func6 rfl rfl rfl rfl rfl ?_
  intro O r F hO hr hF
  cbv
  repeat' first | refine And.intro ?_ ?_ | (refine caseB_intro (fun hb => ?_) (fun hb => ?_) <;> cbv)
  all_goals ((try subst hos); subst hO hr hF; (try simp only [stdO, SS, sub_all, ad_zero] at *); (try simp only [ncast] at *); (try simp only [Int.ofNat_eq_natCast] at *))
  all_goals (try simp only [FnExactRefStoreC.F0, subI_mk] at *)
  all_goals first
    | trivial
    | (show okOrder _ _ = true; kernel_rfl)
    | exact ⟨trivial, trivial⟩
    | exact ⟨ha1, by omega, by omega⟩
    | exact ⟨ha1, hs⟩
    | exact ha1
    | exact ⟨trivial, ha1, by omega⟩
    | exact ⟨rfl, ha1, by omega⟩
    | exact ⟨ha1, by omega, by omega, hAk⟩
    | exact ⟨trivial, hR0, hRc⟩
    | exact ⟨rfl, hR0, hRc⟩
    | exact ⟨hR0, hRc, by omega, hRk⟩
    | exact ⟨⟨_, rfl, hR0, hRm⟩, by omega, le_of_eq_of_le hM hRk⟩
    | exact mkN_length
    | exact absurd (by assumption) (kN_pos (by omega))
    | exact absurd hM (by assumption)
    | exact absurd (by assumption) (by rw [hM]; exact kN_pos (by omega))
    | exact ⟨ha1, by omega⟩
    | exact rfl
    | exact absurd rfl (by assumption)
    | (exfalso; omega)
    | trace_state
theorem r_FnExactRefStore (recs : List (List L)) (h : confs [(true, [tI, .sl [tI, .sl [tI]]]), (false, [tI]), (false, [tI]), (false, [tI])] recs) : Ctr Try.prog 6 (argDVs [(true, [tI, .sl [tI, .sl [tI]]]), (false, [tI]), (false, [tI]), (false, [tI])] recs) [.one (.v (.bool true))] := by
  match recs, h with
  | [[.v (.int _ a0), .s _ a1], [.v (.int _ a2)], [.v (.int _ a3)], [.v (.int _ a4)]], h =>
    simp only [confs, confR, confL] at h
    obtain ⟨⟨⟨rfl, ha0⟩, ⟨rfl, ha1, ka1⟩, _⟩, ⟨⟨rfl, ha2⟩, _⟩, ⟨⟨rfl, ha3⟩, _⟩, ⟨⟨rfl, ha4⟩, _⟩, _⟩ := h
    exact c_laws_FnExactRefStore a0 a1 a2 a3 a4 ⟨ihas ha0, ⟨ha1, ka1⟩, ihas ha2, ihas ha3, ihas ha4⟩

end Go.V
