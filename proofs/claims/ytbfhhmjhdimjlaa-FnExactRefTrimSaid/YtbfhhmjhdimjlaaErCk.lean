/-
  Contracts of functions, by evaluation of conditions on their code.
-/
import Derived.Test.YtbfhhmjhdimjlaaS8
import Derived.Test.YtbfhhmjhdimjlaaRefBk

set_option linter.all false
namespace Go.V
open Go Go.Proofs
set_option maxRecDepth 1000000
set_option maxHeartbeats 8000000
namespace FnExactRefTrimC
structure Fns where
  szN : List (List (List L)) → Int → Int
  kN : List (List (List L)) → Int → Int
  mkN : List (List L) → Int → List (List L)
  rtO : List (List L) → Int → Int → List (List L)
  rtB : List (List L) → Int → Int → Bool
def F0 : Fns := ⟨szN0, kN0, mkN0, rtO, rtB⟩
def ct (F : Fns) : CT := fun f ds => match f with
  | 23 => match ds with
    | [.agg [.v (.int .i64 a0), .s 2 a1], .one (.v (.int .i64 left))] => some (fun _ => Rw [tI, .sl [tI]] a1 ∧ 0 ≤ left ∧ left ≤ 1048576, [.one (.v (.int .i64 (F.szN [a1] left)))])
    | _ => none
  | 25 => match ds with
    | [.agg [.v (.int .i64 a0), .s 2 a1]] => some (fun _ => Rw [tI, .sl [tI]] a1 ∧ cntRs [a1] ≤ 1048576, [.agg [.v (.int .i64 a0), .s 2 a1]])
    | _ => none
  | 26 => match ds with
    | [.agg [.v (.int .i64 a0), .s 2 a1], d] => some (fun _ => d = .agg [.v (.int .i64 a0), .s 2 a1] ∧ Rw [tI, .sl [tI]] a1 ∧ cntRs [a1] ≤ 1099511627776, [.one (.v (.bool true))])
    | _ => none
  | 28 => match ds with
    | [.agg [.v (.int .i64 m0), .s 2 m1], .one (.v (.int .i64 k))] => some (fun _ => (∃ a1, m1 = mkN0 a1 k ∧ Rw [tI, .sl [tI]] a1 ∧ cntE a1 ≤ 1099511627776) ∧ 0 ≤ k ∧ kN0 [m1] k ≤ 1152921504606846976, [.one (.v (.int .i64 (F.kN [m1] k)))])
    | _ => none
  | 24 => match ds with
    | [.agg [.v (.int .i64 n), .s 2 os], .one (.v (.int .i64 id)), .one (.v (.int .i64 sz))] => some (fun _ => Rw tO os ∧ cntE os ≤ 1099511627776, [.agg [.v (.int .i64 n), .s 2 (F.rtO os id sz)], .one (.v (.bool (F.rtB os id sz)))])
    | _ => none
  | 22 => match ds with
    | [.agg [.v (.int .i64 n), .s 2 os], .one (.v (.int .i64 id)), .one (.v (.int .i64 sz))] => some (fun _ => Rw tO os ∧ cntE os ≤ 1099511627776, [.agg [.v (.int .i64 n), .s 2 (F.rtO os id sz)], .one (.v (.bool (F.rtB os id sz)))])
    | _ => none
  | _ => none
theorem ct_ok : CTok Try.prog (ct F0) := by
  intro f ds pre res h hp
  unfold ct at h
  split at h
  · split at h
    · cases h; exact c_laws_szRefHeap _ _ _ hp
    · cases h
  · split at h
    · cases h; exact c_laws_toRefHeap _ _ hp
    · cases h
  · split at h
    · cases h; exact c_laws_eqRefHeap _ _ _ hp
    · cases h
  · split at h
    · cases h; exact c_laws_heldRefHeap _ _ _ hp
    · cases h
  · split at h
    · cases h; exact c_spec_RefTrim _ _ _ _ hp
    · cases h
  · split at h
    · cases h; exact c_impl_RefTrim _ _ _ _ hp
    · cases h
  · cases h
def mt (F : Fns) : MT := fun f => match f with
  | 27 => some fun ds => match ds with
    | [.agg [.v (.int .i64 a0), .s 2 a1], .one (.v (.int .i64 k))] => some (fun _ => Rw [tI, .sl [tI]] a1 ∧ cntRs [a1] ≤ 1099511627776 ∧ 0 ≤ k ∧ kN0 [a1] k ≤ 1152921504606846976, [.s 2 (F.mkN a1 k)], [.one (.v (.int .i64 (F.kN [a1] k)))])
    | _ => none
  | _ => none
theorem mt_ok : MTok Try.prog (mt F0) := by
  intro f mk h ds pre outs res hm hp
  unfold mt at h
  split at h
  · cases h; dsimp only at hm; split at hm
    · cases hm; exact c_laws_markRefHeap _ _ _ hp
    · cases hm
  · cases h
def pt : Fns → PT := noPT
theorem pt_ok : PTok Try.prog (pt F0) := noPT_ok
def nt : Fns → NT := noNT
theorem nt_ok : NTok Try.prog (nt F0) := noNT_ok
def ot : Fns → OT := noOT
theorem ot_ok : OTok Try.prog (ot F0) := noOT_ok
end FnExactRefTrimC
theorem c_laws_FnExactRefTrim (a0 : Int) (a1 : List (List L)) (a2 : Int) (a3 : Int) (hp : (-9223372036854775808 ≤ a0 ∧ a0 ≤ 9223372036854775807) ∧ Rw [tI, .sl [tI]] a1 ∧ (-9223372036854775808 ≤ a2 ∧ a2 ≤ 9223372036854775807) ∧ (-9223372036854775808 ≤ a3 ∧ a3 ≤ 9223372036854775807)) : Ctr Try.prog 6 [.agg [.v (.int .i64 a0), .s 2 a1], .one (.v (.int .i64 a2)), .one (.v (.int .i64 a3))] [.one (.v (.bool true))] := by
  obtain ⟨ha0, ha1, ha2, ha3⟩ := hp
  by_cases hs : cntRs [a1] ≤ 1048576
  case neg =>
    have hsz : szN0 [a1] 1048576 < 0 := szN_neg.2 (by omega)
    refine ctr_of (ctF := FnExactRefTrimC.ct) (mtF := FnExactRefTrimC.mt) (ptF := FnExactRefTrimC.pt) (ntF := FnExactRefTrimC.nt) (otF := FnExactRefTrimC.ot) (F0 := FnExactRefTrimC.F0) tabOk FnExactRefTrimC.ct_ok FnExactRefTrimC.mt_ok FnExactRefTrimC.pt_ok FnExactRefTrimC.nt_ok FnExactRefTrimC.ot_ok mixed 106 _ [4] [.tmp 6] Try.func6 rfl rfl rfl rfl rfl ?_
    intro O r F hO hr hF
    cbv
    refine And.intro ?_ (caseB_intro (fun hb => ?_) (fun hb => ?_))
    · ((try subst hos); subst hO hr hF; (try simp only [stdO, SS, sub_all, ad_zero] at *); (try simp only [ncast] at *); (try simp only [Int.ofNat_eq_natCast] at *))
      exact ⟨ha1, by omega, by omega⟩
    · cbv
      repeat' first | refine And.intro ?_ ?_ | (refine caseB_intro (fun hb => ?_) (fun hb => ?_) <;> cbv)
      all_goals ((try subst hos); subst hO hr hF; (try simp only [stdO, SS, sub_all, ad_zero] at *); (try simp only [ncast] at *); (try simp only [Int.ofNat_eq_natCast] at *))
      all_goals first | trivial | exact rfl
    · exfalso
      ((try subst hos); subst hO hr hF; (try simp only [stdO, SS, sub_all, ad_zero] at *); (try simp only [ncast] at *); (try simp only [Int.ofNat_eq_natCast] at *))
      simp only [FnExactRefTrimC.F0] at hb
      omega
  case pos =>
  have hsz := szN_no hs
  obtain ⟨hR0, hRc⟩ := rt_wf (id := a2) (sz := a3) ha1 hs
  have hsc : cntE a1 ≤ 1048576 := cnt_mem hs (by simp)
  have hRk : kN0 [rtO a1 a2 a3] 1 ≤ 1152921504606846976 := marksAll (by intro r hr; simp only [List.mem_cons, List.not_mem_nil, or_false] at hr; subst hr; exact hR0.marks (by decide)) hRc
  have hAk : kN0 [a1] 1 ≤ 1152921504606846976 := marksAll (by intro r hr; simp only [List.mem_cons, List.not_mem_nil, or_false] at hr; subst hr; exact ha1.marks (by decide)) (by omega)
  have hM : kN0 [mkN0 (rtO a1 a2 a3) 1] 1 = kN0 [rtO a1 a2 a3] 1 := kN_mkAll (rs := [rtO a1 a2 a3]) (k := 1) (k' := 1)
  have hRm : cntE (rtO a1 a2 a3) ≤ 1099511627776 := cnt_mem hRc (by simp)
  refine ctr_of (ctF := FnExactRefTrimC.ct) (mtF := FnExactRefTrimC.mt) (ptF := FnExactRefTrimC.pt) (ntF := FnExactRefTrimC.nt) (otF := FnExactRefTrimC.ot) (F0 := FnExactRefTrimC.F0) tabOk FnExactRefTrimC.ct_ok FnExactRefTrimC.mt_ok FnExactRefTrimC.pt_ok FnExactRefTrimC.nt_ok FnExactRefTrimC.ot_ok mixed 106 _ [4] [.tmp 6] Try.func6 rfl rfl rfl rfl rfl ?_
  intro O r F hO hr hF
  cbv
  repeat' first | refine And.intro ?_ ?_ | (refine caseB_intro (fun hb => ?_) (fun hb => ?_) <;> cbv)
  all_goals ((try subst hos); subst hO hr hF; (try simp only [stdO, SS, sub_all, ad_zero] at *); (try simp only [ncast] at *); (try simp only [Int.ofNat_eq_natCast] at *))
  all_goals (try simp only [FnExactRefTrimC.F0, subI_mk] at *)
  all_goals first
    | exact True.intro
    | (show okOrder _ _ = true; kernel_rfl)
    | exact ⟨True.intro, True.intro⟩
    | exact ⟨ha1, by omega, by omega⟩
    | exact ⟨ha1, hs⟩
    | exact ha1
    | exact ⟨trivial, ha1, by omega⟩
    | exact ⟨rfl, ha1, by omega⟩
    | exact ⟨ha1, by omega, by omega, hAk⟩
    | exact ⟨trivial, hR0, hRc⟩
    | exact ⟨rfl, hR0, hRc⟩
    | exact ⟨hR0, hRc, by omega, hRk⟩
    | exact ⟨⟨_, rfl, hR0, hRm⟩, by omega, le_of_eq_of_le hM hRk⟩
    | exact mkN_length
    | exact absurd (by assumption) (kN_pos (by omega))
    | exact absurd hM (by assumption)
    | exact absurd (by assumption) (by rw [hM]; exact kN_pos (by omega))
    | exact ⟨ha1, by omega⟩
    | exact rfl
    | exact absurd rfl (by assumption)
    | (exfalso; omega)
    | trivial
    | trace_state
theorem r_FnExactRefTrim (recs : List (List L)) (h : confs [(true, [tI, .sl [tI, .sl [tI]]]), (false, [tI]), (false, [tI])] recs) : Ctr Try.prog 6 (argDVs [(true, [tI, .sl [tI, .sl [tI]]]), (false, [tI]), (false, [tI])] recs) [.one (.v (.bool true))] := by
  match recs, h with
  | [[.v (.int _ a0), .s _ a1], [.v (.int _ a2)], [.v (.int _ a3)]], h =>
    simp only [confs, confR, confL] at h
    obtain ⟨⟨⟨rfl, ha0⟩, ⟨rfl, ha1, ka1⟩, _⟩, ⟨⟨rfl, ha2⟩, _⟩, ⟨⟨rfl, ha3⟩, _⟩, _⟩ := h
    exact c_laws_FnExactRefTrim a0 a1 a2 a3 ⟨ihas ha0, ⟨ha1, ka1⟩, ihas ha2, ihas ha3⟩

end Go.V
