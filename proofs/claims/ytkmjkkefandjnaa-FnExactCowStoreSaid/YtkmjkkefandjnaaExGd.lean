/-
  Contracts of functions, by evaluation of conditions on their code.
-/
import Derived.Test.YtkmjkkefandjnaaS4
import Derived.Test.YtkmjkkefandjnaaCowHd

set_option linter.all false
namespace Go.V
open Go Go.Proofs
set_option maxRecDepth 1000000
set_option maxHeartbeats 8000000
namespace FnExactCowStoreC
structure Fns where
  szN : List (List (List L)) → Int → Int
  kN : List (List (List L)) → Int → Int
  mkN : List (List L) → Int → List (List L)
  csC : List (List L) → List (List L) → List (List L) → Int → Int → Int → List (List L)
  csU : List (List L) → List (List L) → List (List L) → Int → Int → Int → List (List L)
  csT : List (List L) → List (List L) → List (List L) → Int → Int → Int → List (List L)
  csK : List (List L) → List (List L) → List (List L) → Int → Int → Int → Int
def F0 : Fns := ⟨szN0, kN0, mkN0, csC, csU, csT, csK⟩
def ct (F : Fns) : CT := fun f ds => match f, ds with
  | 24, [.agg [.s 1 a0, .s 1 a1, .s 1 a2], .one (.v (.int .i64 left))] => some (fun _ => Rw [.sl [tI]] a0 ∧ Rw [tB] a1 ∧ Rw [.sl [tI, tI]] a2 ∧ 0 ≤ left ∧ left ≤ 1048576, [.one (.v (.int .i64 (F.szN [a0, a1, a2] left)))])
  | 26, [.agg [.s 1 a0, .s 1 a1, .s 1 a2]] => some (fun _ => Rw [.sl [tI]] a0 ∧ Rw [tB] a1 ∧ Rw [.sl [tI, tI]] a2 ∧ cntRs [a0, a1, a2] ≤ 1048576, [.agg [.s 1 a0, .s 1 a1, .s 1 a2]])
  | 27, [.agg [.s 1 a0, .s 1 a1, .s 1 a2], d] => some (fun _ => d = .agg [.s 1 a0, .s 1 a1, .s 1 a2] ∧ Rw [.sl [tI]] a0 ∧ Rw [tB] a1 ∧ Rw [.sl [tI, tI]] a2 ∧ cntRs [a0, a1, a2] ≤ 1099511627776, [.one (.v (.bool true))])
  | 40, [.agg [.s 1 m0, .s 1 m1, .s 1 m2], .one (.v (.int .i64 k))] => some (fun _ => (∃ a0, m0 = mkN0 a0 k ∧ Rw [.sl [tI]] a0 ∧ cntE a0 ≤ 1099511627776) ∧ (∃ a1, m1 = mkN0 a1 (kN0 [m0] k) ∧ Rw [tB] a1 ∧ cntE a1 ≤ 1099511627776) ∧ (∃ a2, m2 = mkN0 a2 (kN0 [m0, m1] k) ∧ Rw [.sl [tI, tI]] a2 ∧ cntE a2 ≤ 1099511627776) ∧ 0 ≤ k ∧ kN0 [m0, m1, m2] k ≤ 1152921504606846976, [.one (.v (.int .i64 (F.kN [m0, m1, m2] k)))])
  | 45, [.agg [.s 1 cs, .s 1 us, .s 1 ts], .one (.v (.int .i64 w)), .one (.v (.int .i64 a)), .one (.v (.int .i64 v))] => some (fun _ => Rw [.sl [tI]] cs ∧ Rw [tB] us ∧ Rw [.sl [tI, tI]] ts ∧ cntE cs ≤ 1099511627776 ∧ cntE us ≤ 1099511627776 ∧ cntE ts ≤ 1099511627776 ∧ (-9223372036854775808 ≤ a ∧ a ≤ 9223372036854775807) ∧ (-9223372036854775808 ≤ v ∧ v ≤ 9223372036854775807), [.agg [.s 1 (F.csC cs us ts w a v), .s 1 (F.csU cs us ts w a v), .s 1 (F.csT cs us ts w a v)], .one (.v (.int .i64 (F.csK cs us ts w a v)))])
  | 19, [.agg [.s 1 cs, .s 1 us, .s 1 ts], .one (.v (.int .i64 w)), .one (.v (.int .i64 a)), .one (.v (.int .i64 v))] => some (fun _ => Rw [.sl [tI]] cs ∧ Rw [tB] us ∧ Rw [.sl [tI, tI]] ts ∧ cntE cs ≤ 1099511627776 ∧ cntE us ≤ 1099511627776 ∧ cntE ts ≤ 1099511627776 ∧ (-9223372036854775808 ≤ a ∧ a ≤ 9223372036854775807) ∧ (-9223372036854775808 ≤ v ∧ v ≤ 9223372036854775807), [.agg [.s 1 (F.csC cs us ts w a v), .s 1 (F.csU cs us ts w a v), .s 1 (F.csT cs us ts w a v)], .one (.v (.int .i64 (F.csK cs us ts w a v)))])
  | _, _ => none
theorem ct_ok : CTok Try.prog (ct F0) := by
  intro f ds pre res h hp
  unfold ct at h
  split at h
  · cases h; exact c_laws_szCow _ _ _ _ hp
  · cases h; exact c_laws_toCow _ _ _ hp
  · cases h; exact c_laws_eqCow _ _ _ _ hp
  · cases h; exact c_laws_heldCow _ _ _ _ hp
  · cases h; exact c_spec_CowStore _ _ _ _ _ _ hp
  · cases h; exact c_impl_CowStore _ _ _ _ _ _ hp
  · cases h
def mt (F : Fns) : MT := fun f => match f with
  | 39 => some fun ds => match ds with
    | [.agg [.s 1 a0, .s 1 a1, .s 1 a2], .one (.v (.int .i64 k))] => some (fun _ => Rw [.sl [tI]] a0 ∧ Rw [tB] a1 ∧ Rw [.sl [tI, tI]] a2 ∧ cntRs [a0, a1, a2] ≤ 1099511627776 ∧ 0 ≤ k ∧ kN0 [a0, a1, a2] k ≤ 1152921504606846976, [.s 1 (F.mkN a0 k), .s 1 (F.mkN a1 (F.kN [a0] k)), .s 1 (F.mkN a2 (F.kN [a0, a1] k))], [.one (.v (.int .i64 (F.kN [a0, a1, a2] k)))])
    | _ => none
  | _ => none
theorem mt_ok : MTok Try.prog (mt F0) := by
  intro f mk h ds pre outs res hm hp
  unfold mt at h
  split at h
  · cases h; dsimp only at hm; split at hm
    · cases hm; exact c_laws_markCow _ _ _ _ hp
    · cases hm
  · cases h
def pt : Fns → PT := noPT
theorem pt_ok : PTok Try.prog (pt F0) := noPT_ok
end FnExactCowStoreC
theorem c_laws_FnExactCowStore (a0 : List (List L)) (a1 : List (List L)) (a2 : List (List L)) (a3 : Int) (a4 : Int) (a5 : Int) (hp : Rw [.sl [tI]] a0 ∧ Rw [tB] a1 ∧ Rw [.sl [tI, tI]] a2 ∧ (-9223372036854775808 ≤ a3 ∧ a3 ≤ 9223372036854775807) ∧ (-9223372036854775808 ≤ a4 ∧ a4 ≤ 9223372036854775807) ∧ (-9223372036854775808 ≤ a5 ∧ a5 ≤ 9223372036854775807)) : Ctr Try.prog 12 [.agg [.s 1 a0, .s 1 a1, .s 1 a2], .one (.v (.int .i64 a3)), .one (.v (.int .i64 a4)), .one (.v (.int .i64 a5))] [.one (.v (.bool true))] := by
  obtain ⟨ha0, ha1, ha2, ha3, ha4, ha5⟩ := hp
  by_cases hs : cntRs [a0, a1, a2] ≤ 1048576
  case neg =>
    have hsz : szN0 [a0, a1, a2] 1048576 < 0 := szN_neg.2 (by omega)
    refine ctr_of (ctF := FnExactCowStoreC.ct) (mtF := FnExactCowStoreC.mt) (ptF := FnExactCowStoreC.pt) (F0 := FnExactCowStoreC.F0) tabOk FnExactCowStoreC.ct_ok FnExactCowStoreC.mt_ok FnExactCowStoreC.pt_ok mixed 111 _ [4] [.tmp 8] Try.func12 rfl rfl rfl rfl rfl ?_
    intro O r F hO hr hF
    cbv
    refine And.intro ?_ (caseB_intro (fun hb => ?_) (fun hb => ?_))
    · ((try subst hos); subst hO hr hF; (try simp only [stdO, SS, sub_all, ad_zero] at *); (try simp only [ncast] at *); (try simp only [Int.ofNat_eq_natCast] at *))
      exact ⟨ha0, ha1, ha2, by omega, by omega⟩
    · cbv
      repeat' first | refine And.intro ?_ ?_ | (refine caseB_intro (fun hb => ?_) (fun hb => ?_) <;> cbv)
      all_goals ((try subst hos); subst hO hr hF; (try simp only [stdO, SS, sub_all, ad_zero] at *); (try simp only [ncast] at *); (try simp only [Int.ofNat_eq_natCast] at *))
      all_goals first | trivial | exact rfl
    · exfalso
      ((try subst hos); subst hO hr hF; (try simp only [stdO, SS, sub_all, ad_zero] at *); (try simp only [ncast] at *); (try simp only [Int.ofNat_eq_natCast] at *))
      simp only [FnExactCowStoreC.F0] at hb
      omega
  case pos =>
  have hsz := szN_no hs
  have hR0 := (cs_c (us := a1) (ts := a2) (w := a3) (a := a4) (v := a5) ha0).1
  have hR1 := (cs_u (cs := a0) (ts := a2) (w := a3) (a := a4) (v := a5) ha1).1
  have hR2 := (cs_t (cs := a0) (us := a1) (w := a3) (a := a4) (v := a5) ha2).1
  have hRc := cs_cnt (w := a3) (a := a4) (v := a5) hs ha0 ha1 ha2
  have hsc : cntE a0 ≤ 1048576 ∧ cntE a1 ≤ 1048576 ∧ cntE a2 ≤ 1048576 := ⟨cnt_mem hs (by simp), cnt_mem hs (by simp), cnt_mem hs (by simp)⟩
  have hRk : kN0 [csC a0 a1 a2 a3 a4 a5, csU a0 a1 a2 a3 a4 a5, csT a0 a1 a2 a3 a4 a5] 1 ≤ 1152921504606846976 := marksAll (by intro r hr; simp only [List.mem_cons, List.not_mem_nil, or_false] at hr; rcases hr with rfl | rfl | rfl; exact hR0.marks (by decide); exact hR1.marks (by decide); exact hR2.marks (by decide)) hRc
  have hAk : kN0 [a0, a1, a2] 1 ≤ 1152921504606846976 := marksAll (by intro r hr; simp only [List.mem_cons, List.not_mem_nil, or_false] at hr; rcases hr with rfl | rfl | rfl; exact ha0.marks (by decide); exact ha1.marks (by decide); exact ha2.marks (by decide)) (by omega)
  have hE1 : mkN0 (csU a0 a1 a2 a3 a4 a5) (kN0 [csC a0 a1 a2 a3 a4 a5] 1) = mkN0 (csU a0 a1 a2 a3 a4 a5) (kN0 [mkN0 (csC a0 a1 a2 a3 a4 a5) 1] 1) := congrArg _ (kN_mkAll (rs := [csC a0 a1 a2 a3 a4 a5]) (k := 1) (k' := 1)).symm
  have hE2 : mkN0 (csT a0 a1 a2 a3 a4 a5) (kN0 [csC a0 a1 a2 a3 a4 a5, csU a0 a1 a2 a3 a4 a5] 1) = mkN0 (csT a0 a1 a2 a3 a4 a5) (kN0 [mkN0 (csC a0 a1 a2 a3 a4 a5) 1, mkN0 (csU a0 a1 a2 a3 a4 a5) (kN0 [csC a0 a1 a2 a3 a4 a5] 1)] 1) := congrArg _ (kN_mkAll (rs := [csC a0 a1 a2 a3 a4 a5, csU a0 a1 a2 a3 a4 a5]) (k := 1) (k' := 1)).symm
  have hM : kN0 [mkN0 (csC a0 a1 a2 a3 a4 a5) 1, mkN0 (csU a0 a1 a2 a3 a4 a5) (kN0 [csC a0 a1 a2 a3 a4 a5] 1), mkN0 (csT a0 a1 a2 a3 a4 a5) (kN0 [csC a0 a1 a2 a3 a4 a5, csU a0 a1 a2 a3 a4 a5] 1)] 1 = kN0 [csC a0 a1 a2 a3 a4 a5, csU a0 a1 a2 a3 a4 a5, csT a0 a1 a2 a3 a4 a5] 1 := kN_mkAll (rs := [csC a0 a1 a2 a3 a4 a5, csU a0 a1 a2 a3 a4 a5, csT a0 a1 a2 a3 a4 a5]) (k := 1) (k' := 1)
  have hRm : cntE (csC a0 a1 a2 a3 a4 a5) ≤ 1099511627776 ∧ cntE (csU a0 a1 a2 a3 a4 a5) ≤ 1099511627776 ∧ cntE (csT a0 a1 a2 a3 a4 a5) ≤ 1099511627776 := ⟨cnt_mem hRc (by simp), cnt_mem hRc (by simp), cnt_mem hRc (by simp)⟩
  refine ctr_of (ctF := FnExactCowStoreC.ct) (mtF := FnExactCowStoreC.mt) (ptF := FnExactCowStoreC.pt) (F0 := FnExactCowStoreC.F0) tabOk FnExactCowStoreC.ct_ok FnExactCowStoreC.mt_ok FnExactCowStoreC.pt_ok mixed 111 _ [4] [.tmp 8] Try.func12 rfl rfl rfl rfl rfl ?_
  intro O r F hO hr hF
  cbv
  repeat' first | refine And.intro ?_ ?_ | (refine caseB_intro (fun hb => ?_) (fun hb => ?_) <;> cbv)
  all_goals ((try subst hos); subst hO hr hF; (try simp only [stdO, SS, sub_all, ad_zero] at *); (try simp only [ncast] at *); (try simp only [Int.ofNat_eq_natCast] at *))
  all_goals (try simp only [FnExactCowStoreC.F0, subI_mk] at *)
  all_goals first
    | trivial
    | (show okOrder _ _ = true; kernel_rfl)
    | exact ⟨trivial, trivial⟩
    | exact ⟨ha0, ha1, ha2, by omega, by omega⟩
    | exact ⟨ha0, ha1, ha2, hs⟩
    | exact ⟨ha0, ha1, ha2⟩
    | exact ⟨trivial, ha0, ha1, ha2, by omega⟩
    | exact ⟨rfl, ha0, ha1, ha2, by omega⟩
    | exact ⟨ha0, ha1, ha2, by omega, by omega, hAk⟩
    | exact ⟨trivial, hR0, hR1, hR2, hRc⟩
    | exact ⟨rfl, hR0, hR1, hR2, hRc⟩
    | exact ⟨hR0, hR1, hR2, hRc, by omega, hRk⟩
    | exact ⟨⟨_, rfl, hR0, hRm.1⟩, ⟨_, hE1, hR1, hRm.2.1⟩, ⟨_, hE2, hR2, hRm.2.2⟩, by omega, le_of_eq_of_le hM hRk⟩
    | exact mkN_length
    | exact absurd (by assumption) (kN_pos (by omega))
    | exact absurd hM (by assumption)
    | exact absurd (by assumption) (by rw [hM]; exact kN_pos (by omega))
    | exact ⟨ha0, ha1, ha2, by omega, by omega, by omega, ha4, ha5⟩
    | exact rfl
    | exact absurd rfl (by assumption)
    | (exfalso; omega)
    | trace_state
theorem r_FnExactCowStore (recs : List (List L)) (h : confs [(true, [.sl [.sl [tI]], .sl [tB], .sl [.sl [tI, tI]]]), (false, [tI]), (false, [tI]), (false, [tI])] recs) : Ctr Try.prog 12 (argDVs [(true, [.sl [.sl [tI]], .sl [tB], .sl [.sl [tI, tI]]]), (false, [tI]), (false, [tI]), (false, [tI])] recs) [.one (.v (.bool true))] := by
  match recs, h with
  | [[.s _ a0, .s _ a1, .s _ a2], [.v (.int _ a3)], [.v (.int _ a4)], [.v (.int _ a5)]], h =>
    simp only [confs, confR, confL] at h
    obtain ⟨⟨⟨rfl, ha0, ka0⟩, ⟨rfl, ha1, ka1⟩, ⟨rfl, ha2, ka2⟩, _⟩, ⟨⟨rfl, ha3⟩, _⟩, ⟨⟨rfl, ha4⟩, _⟩, ⟨⟨rfl, ha5⟩, _⟩, _⟩ := h
    exact c_laws_FnExactCowStore a0 a1 a2 a3 a4 a5 ⟨⟨ha0, ka0⟩, ⟨ha1, ka1⟩, ⟨ha2, ka2⟩, ihas ha3, ihas ha4, ihas ha5⟩

end Go.V
