/-
  Contracts of functions, by evaluation of conditions on their code.
-/
import Derived.Test.YtkmjkkefandjnaaS4
import Derived.Test.YtkmjkkefandjnaaCowCd

set_option linter.all false
namespace Go.V
open Go Go.Proofs
set_option maxRecDepth 1000000
set_option maxHeartbeats 1000000
namespace FnExactCowSharedC
structure Fns where
  szN : List (List (List L)) → Int → Int
  sharedN : List (List L) → List (List L) → List (List L) → Int
def F0 : Fns := ⟨szN0, sharedN⟩
def ct (F : Fns) : CT := fun f ds => match f, ds with
  | 24, [.agg [.s 1 a0, .s 1 a1, .s 1 a2], .one (.v (.int .i64 left))] => some (fun _ => Rw [.sl [tI]] a0 ∧ Rw [tB] a1 ∧ Rw [.sl [tI, tI]] a2 ∧ 0 ≤ left ∧ left ≤ 1048576, [.one (.v (.int .i64 (F.szN [a0, a1, a2] left)))])
  | 26, [.agg [.s 1 a0, .s 1 a1, .s 1 a2]] => some (fun _ => Rw [.sl [tI]] a0 ∧ Rw [tB] a1 ∧ Rw [.sl [tI, tI]] a2 ∧ cntRs [a0, a1, a2] ≤ 1048576, [.agg [.s 1 a0, .s 1 a1, .s 1 a2]])
  | 27, [.agg [.s 1 a0, .s 1 a1, .s 1 a2], d] => some (fun _ => d = .agg [.s 1 a0, .s 1 a1, .s 1 a2] ∧ Rw [.sl [tI]] a0 ∧ Rw [tB] a1 ∧ Rw [.sl [tI, tI]] a2 ∧ cntRs [a0, a1, a2] ≤ 1099511627776, [.one (.v (.bool true))])
  | 28, [.agg [.s 1 cs, .s 1 us, .s 1 ts]] => some (fun _ => Rw [.sl [tI]] cs ∧ Rw [tB] us ∧ Rw [.sl [tI, tI]] ts, [.one (.v (.int .i64 (F.sharedN cs us ts)))])
  | 29, [.agg [.s 1 cs, .s 1 us, .s 1 ts]] => some (fun _ => Rw [.sl [tI]] cs ∧ Rw [tB] us ∧ Rw [.sl [tI, tI]] ts, [.one (.v (.int .i64 (F.sharedN cs us ts)))])
  | _, _ => none
theorem ct_ok : CTok Try.prog (ct F0) := by
  intro f ds pre res h hp
  unfold ct at h
  split at h
  · cases h; exact c_laws_szCow _ _ _ _ hp
  · cases h; exact c_laws_toCow _ _ _ hp
  · cases h; exact c_laws_eqCow _ _ _ _ hp
  · cases h; exact c_spec_CowShared _ _ _ hp
  · cases h; exact c_impl_CowShared _ _ _ hp
  · cases h
def mt : Fns → MT := noMT
theorem mt_ok : MTok Try.prog (mt F0) := noMT_ok
def pt : Fns → PT := noPT
theorem pt_ok : PTok Try.prog (pt F0) := noPT_ok
end FnExactCowSharedC
theorem c_laws_FnExactCowShared (a0 : List (List L)) (a1 : List (List L)) (a2 : List (List L)) (hp : Rw [.sl [tI]] a0 ∧ Rw [tB] a1 ∧ Rw [.sl [tI, tI]] a2) : Ctr Try.prog 6 [.agg [.s 1 a0, .s 1 a1, .s 1 a2]] [.one (.v (.bool true))] := by
  obtain ⟨ha0, ha1, ha2⟩ := hp
  by_cases hs : cntRs [a0, a1, a2] ≤ 1048576
  case neg =>
    have hsz : szN0 [a0, a1, a2] 1048576 < 0 := szN_neg.2 (by omega)
    refine ctr_of (ctF := FnExactCowSharedC.ct) (mtF := FnExactCowSharedC.mt) (ptF := FnExactCowSharedC.pt) (F0 := FnExactCowSharedC.F0) tabOk FnExactCowSharedC.ct_ok FnExactCowSharedC.mt_ok FnExactCowSharedC.pt_ok mixed 27 _ [4] [.tmp 2] Try.func6 rfl rfl rfl rfl rfl ?_
    intro O r F hO hr hF
    cbv
    refine And.intro ?_ (caseB_intro (fun hb => ?_) (fun hb => ?_))
    · ((try subst hos); subst hO hr hF; (try simp only [stdO, SS, sub_all, ad_zero] at *); (try simp only [ncast] at *); (try simp only [Int.ofNat_eq_natCast] at *))
      exact ⟨ha0, ha1, ha2, by omega, by omega⟩
    · cbv
      repeat' first | refine And.intro ?_ ?_ | (refine caseB_intro (fun hb => ?_) (fun hb => ?_) <;> cbv)
      all_goals ((try subst hos); subst hO hr hF; (try simp only [stdO, SS, sub_all, ad_zero] at *); (try simp only [ncast] at *); (try simp only [Int.ofNat_eq_natCast] at *))
      all_goals first | trivial | exact rfl
    · exfalso
      ((try subst hos); subst hO hr hF; (try simp only [stdO, SS, sub_all, ad_zero] at *); (try simp only [ncast] at *); (try simp only [Int.ofNat_eq_natCast] at *))
      simp only [FnExactCowSharedC.F0] at hb
      omega
  case pos =>
  have hsz := szN_no hs
  refine ctr_of (ctF := FnExactCowSharedC.ct) (mtF := FnExactCowSharedC.mt) (ptF := FnExactCowSharedC.pt) (F0 := FnExactCowSharedC.F0) tabOk FnExactCowSharedC.ct_ok FnExactCowSharedC.mt_ok FnExactCowSharedC.pt_ok mixed 27 _ [4] [.tmp 2] Try.func6 rfl rfl rfl rfl rfl ?_
  intro O r F hO hr hF
  cbv
  repeat' first | refine And.intro ?_ ?_ | (refine caseB_intro (fun hb => ?_) (fun hb => ?_) <;> cbv)
  all_goals ((try subst hos); subst hO hr hF; (try simp only [stdO, SS, sub_all, ad_zero] at *); (try simp only [ncast] at *); (try simp only [Int.ofNat_eq_natCast] at *))
  all_goals (try simp only [FnExactCowSharedC.F0] at *)
  all_goals first
    | trivial
    | (show okOrder _ _ = true; kernel_rfl)
    | exact ⟨trivial, trivial⟩
    | exact ⟨ha0, ha1, ha2, by omega, by omega⟩
    | exact ⟨ha0, ha1, ha2, hs⟩
    | exact ⟨ha0, ha1, ha2⟩
    | exact ⟨trivial, ha0, ha1, ha2, by omega⟩
    | exact ⟨rfl, ha0, ha1, ha2, by omega⟩
    | exact rfl
    | exact absurd rfl (by assumption)
    | (exfalso; omega)
    | trace_state
theorem r_FnExactCowShared (recs : List (List L)) (h : confs [(true, [.sl [.sl [tI]], .sl [tB], .sl [.sl [tI, tI]]])] recs) : Ctr Try.prog 6 (argDVs [(true, [.sl [.sl [tI]], .sl [tB], .sl [.sl [tI, tI]]])] recs) [.one (.v (.bool true))] := by
  match recs, h with
  | [[.s _ a0, .s _ a1, .s _ a2]], h =>
    simp only [confs, confR, confL] at h
    obtain ⟨⟨⟨rfl, ha0, ka0⟩, ⟨rfl, ha1, ka1⟩, ⟨rfl, ha2, ka2⟩, _⟩, _⟩ := h
    exact c_laws_FnExactCowShared a0 a1 a2 ⟨⟨ha0, ka0⟩, ⟨ha1, ka1⟩, ⟨ha2, ka2⟩⟩

end Go.V
