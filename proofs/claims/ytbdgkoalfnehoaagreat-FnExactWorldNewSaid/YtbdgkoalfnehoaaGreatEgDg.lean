/-
  Contracts of functions, by evaluation of conditions on their code.
-/
import Derived.Test.YtbdgkoalfnehoaaGreatS6
import Derived.Test.YtbdgkoalfnehoaaGreatLawHFg
import Derived.Test.YtbdgkoalfnehoaaGreatKerDg

set_option linter.all false
namespace Go.V
open Go Go.Proofs
set_option maxRecDepth 1000000
set_option maxHeartbeats 8000000
namespace FnExactWorldNewC
structure Fns where
  szN : List (List (List L)) → Int → Int
  kN : List (List (List L)) → Int → Int
  mkN : List (List L) → Int → List (List L)
  hnC : Int → Int → Int → Int → List (List L) → List (List L)
  hnU : Int → Int → Int → Int → List (List L) → List (List L)
  hnE : Int → Int → Int → Int → List (List L) → List (List L)
  hnR : Int → Int → Int → Int → List (List L) → List (List L)
  hnF : Int → Int → Int → Int → List (List L) → List (List L)
  hnK : Int → Int → Int → Int → List (List L) → List (List L)
  hnM : Int → Int → Int → Int → List (List L) → List (List L)
  hnI : Int → Int → Int → Int → List (List L) → List (List L)
  hnQ : Int → Int → Int → Int → List (List L) → Int
  hnL : Int → Int → Int → Int → List (List L) → Int
  hnN : Int → Int → Int → Int → List (List L) → Int
  hnB : Int → Int → Int → Int → List (List L) → Bool
def F0 : Fns := ⟨szN0, kN0, mkN0, hnC, hnU, hnE, hnR, hnF, hnK, hnM, hnI, hnQ, hnL, hnN, hnB⟩
def ct (F : Fns) : CT := fun f ds => match f with
  | 25 => match ds with
    | [.agg [.v (.int .i64 a0), .v (.int .i64 a1), .v (.int .i64 a2), .v (.int .i64 a3), .s 1 a4], .one (.v (.int .i64 left))] => some (fun _ => Rw [tI] a4 ∧ 0 ≤ left ∧ left ≤ 1048576, [.one (.v (.int .i64 (F.szN [a4] left)))])
    | _ => none
  | 27 => match ds with
    | [.agg [.v (.int .i64 a0), .v (.int .i64 a1), .v (.int .i64 a2), .v (.int .i64 a3), .s 1 a4]] => some (fun _ => Rw [tI] a4 ∧ cntRs [a4] ≤ 1048576, [.agg [.v (.int .i64 a0), .v (.int .i64 a1), .v (.int .i64 a2), .v (.int .i64 a3), .s 1 a4]])
    | _ => none
  | 29 => match ds with
    | [.agg [.s 1 a0, .s 1 a1, .s 2 a2, .v (.int .i64 a3), .s 1 a4, .s 2 a5, .s 3 a6, .s 3 a7, .s 4 a8, .s 1 a9, .s 1 a10, .s 1 a11, .v (.int .i64 a12), .s 3 a13, .v (.int .i64 a14), .v (.int .i64 a15), .v (.int .i64 a16), .v (.int .i64 a17), .v (.bool a18), .v (.int .i64 a19), .v (.int .i64 a20), .s 1 a21, .v (.int .i64 a22), .v (.int .i64 a23), .v (.int .i64 a24), .s 2 a25], d] => some (fun _ => d = .agg [.s 1 a0, .s 1 a1, .s 2 a2, .v (.int .i64 a3), .s 1 a4, .s 2 a5, .s 3 a6, .s 3 a7, .s 4 a8, .s 1 a9, .s 1 a10, .s 1 a11, .v (.int .i64 a12), .s 3 a13, .v (.int .i64 a14), .v (.int .i64 a15), .v (.int .i64 a16), .v (.int .i64 a17), .v (.bool a18), .v (.int .i64 a19), .v (.int .i64 a20), .s 1 a21, .v (.int .i64 a22), .v (.int .i64 a23), .v (.int .i64 a24), .s 2 a25] ∧ Rw [.sl [tI]] a0 ∧ Rw [tB] a1 ∧ Rw [tI, tI] a2 ∧ Rw [tI] a4 ∧ Rw [tI, tI] a5 ∧ Rw [tI, tI, tI] a6 ∧ Rw [tI, tI, tI] a7 ∧ Rw [tI, tI, tI, tI] a8 ∧ Rw [.sl [.sl [tI]]] a9 ∧ Rw [.sl [tI, tI]] a10 ∧ Rw [.sl [tI]] a11 ∧ Rw [tI, tI, tI] a13 ∧ Rw [tI] a21 ∧ Rw [tI, .sl [tI]] a25 ∧ cntRs [a0, a1, a2, a4, a5, a6, a7, a8, a9, a10, a11, a13, a21, a25] ≤ 1099511627776, [.one (.v (.bool true))])
    | _ => none
  | 30 => match ds with
    | [.agg [.v (.int .i64 a0), .v (.int .i64 a1), .v (.int .i64 a2), .v (.int .i64 a3), .s 1 a4], d] => some (fun _ => d = .agg [.v (.int .i64 a0), .v (.int .i64 a1), .v (.int .i64 a2), .v (.int .i64 a3), .s 1 a4] ∧ Rw [tI] a4 ∧ cntRs [a4] ≤ 1099511627776, [.one (.v (.bool true))])
    | _ => none
  | 33 => match ds with
    | [.agg [.s 1 m0, .s 1 m1, .s 2 m2, .v (.int .i64 m3), .s 1 m4, .s 2 m5, .s 3 m6, .s 3 m7, .s 4 m8, .s 1 m9, .s 1 m10, .s 1 m11, .v (.int .i64 m12), .s 3 m13, .v (.int .i64 m14), .v (.int .i64 m15), .v (.int .i64 m16), .v (.int .i64 m17), .v (.bool m18), .v (.int .i64 m19), .v (.int .i64 m20), .s 1 m21, .v (.int .i64 m22), .v (.int .i64 m23), .v (.int .i64 m24), .s 2 m25], .one (.v (.int .i64 k))] => some (fun _ => (∃ a0, m0 = mkN0 a0 k ∧ Rw [.sl [tI]] a0 ∧ cntE a0 ≤ 1099511627776) ∧ (∃ a1, m1 = mkN0 a1 (kN0 [m0] k) ∧ Rw [tB] a1 ∧ cntE a1 ≤ 1099511627776) ∧ (∃ a2, m2 = mkN0 a2 (kN0 [m0, m1] k) ∧ Rw [tI, tI] a2 ∧ cntE a2 ≤ 1099511627776) ∧ (∃ a4, m4 = mkN0 a4 (kN0 [m0, m1, m2] k) ∧ Rw [tI] a4 ∧ cntE a4 ≤ 1099511627776) ∧ (∃ a5, m5 = mkN0 a5 (kN0 [m0, m1, m2, m4] k) ∧ Rw [tI, tI] a5 ∧ cntE a5 ≤ 1099511627776) ∧ (∃ a6, m6 = mkN0 a6 (kN0 [m0, m1, m2, m4, m5] k) ∧ Rw [tI, tI, tI] a6 ∧ cntE a6 ≤ 1099511627776) ∧ (∃ a7, m7 = mkN0 a7 (kN0 [m0, m1, m2, m4, m5, m6] k) ∧ Rw [tI, tI, tI] a7 ∧ cntE a7 ≤ 1099511627776) ∧ (∃ a8, m8 = mkN0 a8 (kN0 [m0, m1, m2, m4, m5, m6, m7] k) ∧ Rw [tI, tI, tI, tI] a8 ∧ cntE a8 ≤ 1099511627776) ∧ (∃ a9, m9 = mkN0 a9 (kN0 [m0, m1, m2, m4, m5, m6, m7, m8] k) ∧ Rw [.sl [.sl [tI]]] a9 ∧ cntE a9 ≤ 1099511627776) ∧ (∃ a10, m10 = mkN0 a10 (kN0 [m0, m1, m2, m4, m5, m6, m7, m8, m9] k) ∧ Rw [.sl [tI, tI]] a10 ∧ cntE a10 ≤ 1099511627776) ∧ (∃ a11, m11 = mkN0 a11 (kN0 [m0, m1, m2, m4, m5, m6, m7, m8, m9, m10] k) ∧ Rw [.sl [tI]] a11 ∧ cntE a11 ≤ 1099511627776) ∧ (∃ a13, m13 = mkN0 a13 (kN0 [m0, m1, m2, m4, m5, m6, m7, m8, m9, m10, m11] k) ∧ Rw [tI, tI, tI] a13 ∧ cntE a13 ≤ 1099511627776) ∧ (∃ a21, m21 = mkN0 a21 (kN0 [m0, m1, m2, m4, m5, m6, m7, m8, m9, m10, m11, m13] k) ∧ Rw [tI] a21 ∧ cntE a21 ≤ 1099511627776) ∧ (∃ a25, m25 = mkN0 a25 (kN0 [m0, m1, m2, m4, m5, m6, m7, m8, m9, m10, m11, m13, m21] k) ∧ Rw [tI, .sl [tI]] a25 ∧ cntE a25 ≤ 1099511627776) ∧ 0 ≤ k ∧ kN0 [m0, m1, m2, m4, m5, m6, m7, m8, m9, m10, m11, m13, m21, m25] k ≤ 1152921504606846976, [.one (.v (.int .i64 (F.kN [m0, m1, m2, m4, m5, m6, m7, m8, m9, m10, m11, m13, m21, m25] k)))])
    | _ => none
  | 26 => match ds with
    | [.agg [.v (.int .i64 p), .v (.int .i64 f), .v (.int .i64 t), .v (.int .i64 l), .s 1 rs]] => some (fun _ => Rw [tI] rs ∧ rs.length ≤ 1099511627776, [.agg [.s 1 (F.hnC p f t l rs), .s 1 (F.hnU p f t l rs), .s 2 (F.hnE p f t l rs), .v (.int .i64 0), .s 1 (F.hnR p f t l rs), .s 2 (F.hnF p f t l rs), .s 3 [], .s 3 [], .s 4 [], .s 1 (F.hnK p f t l rs), .s 1 (F.hnM p f t l rs), .s 1 (F.hnI p f t l rs), .v (.int .i64 (F.hnQ p f t l rs)), .s 3 [], .v (.int .i64 0), .v (.int .i64 0), .v (.int .i64 (F.hnL p f t l rs)), .v (.int .i64 (F.hnN p f t l rs)), .v (.bool false), .v (.int .i64 0), .v (.int .i64 0), .s 1 [], .v (.int .i64 0), .v (.int .i64 0), .v (.int .i64 (F.hnN p f t l rs)), .s 2 []], .one (.v (.bool (F.hnB p f t l rs)))])
    | _ => none
  | 28 => match ds with
    | [.agg [.v (.int .i64 p), .v (.int .i64 f), .v (.int .i64 t), .v (.int .i64 l), .s 1 rs]] => some (fun _ => Rw [tI] rs ∧ rs.length ≤ 1099511627776, [.agg [.s 1 (F.hnC p f t l rs), .s 1 (F.hnU p f t l rs), .s 2 (F.hnE p f t l rs), .v (.int .i64 0), .s 1 (F.hnR p f t l rs), .s 2 (F.hnF p f t l rs), .s 3 [], .s 3 [], .s 4 [], .s 1 (F.hnK p f t l rs), .s 1 (F.hnM p f t l rs), .s 1 (F.hnI p f t l rs), .v (.int .i64 (F.hnQ p f t l rs)), .s 3 [], .v (.int .i64 0), .v (.int .i64 0), .v (.int .i64 (F.hnL p f t l rs)), .v (.int .i64 (F.hnN p f t l rs)), .v (.bool false), .v (.int .i64 0), .v (.int .i64 0), .s 1 [], .v (.int .i64 0), .v (.int .i64 0), .v (.int .i64 (F.hnN p f t l rs)), .s 2 []], .one (.v (.bool (F.hnB p f t l rs)))])
    | _ => none
  | _ => none
theorem ct_ok : CTok Tryz.prog (ct F0) := by
  intro f ds pre res h hp
  unfold ct at h
  split at h
  · split at h
    · cases h; exact c_laws_szConfig _ _ _ _ _ _ hp
    · cases h
  · split at h
    · cases h; exact c_laws_toConfig _ _ _ _ _ hp
    · cases h
  · split at h
    · cases h; exact c_laws_eqWorld _ _ _ _ _ _ _ _ _ _ _ _ _ _ _ _ _ _ _ _ _ _ _ _ _ _ _ hp
    · cases h
  · split at h
    · cases h; exact c_laws_eqConfig _ _ _ _ _ _ hp
    · cases h
  · split at h
    · cases h; exact c_laws_heldWorld _ _ _ _ _ _ _ _ _ _ _ _ _ _ _ _ _ _ _ _ _ _ _ _ _ _ _ hp
    · cases h
  · split at h
    · cases h; exact c_spec_WorldNew _ _ _ _ _ hp
    · cases h
  · split at h
    · cases h; exact c_impl_WorldNew _ _ _ _ _ hp
    · cases h
  · cases h
def mt (F : Fns) : MT := fun f => match f with
  | 31 => some fun ds => match ds with
    | [.agg [.v (.int .i64 a0), .v (.int .i64 a1), .v (.int .i64 a2), .v (.int .i64 a3), .s 1 a4], .one (.v (.int .i64 k))] => some (fun _ => Rw [tI] a4 ∧ cntRs [a4] ≤ 1099511627776 ∧ 0 ≤ k ∧ kN0 [a4] k ≤ 1152921504606846976, [.s 1 (F.mkN a4 k)], [.one (.v (.int .i64 (F.kN [a4] k)))])
    | _ => none
  | 32 => some fun ds => match ds with
    | [.agg [.s 1 a0, .s 1 a1, .s 2 a2, .v (.int .i64 a3), .s 1 a4, .s 2 a5, .s 3 a6, .s 3 a7, .s 4 a8, .s 1 a9, .s 1 a10, .s 1 a11, .v (.int .i64 a12), .s 3 a13, .v (.int .i64 a14), .v (.int .i64 a15), .v (.int .i64 a16), .v (.int .i64 a17), .v (.bool a18), .v (.int .i64 a19), .v (.int .i64 a20), .s 1 a21, .v (.int .i64 a22), .v (.int .i64 a23), .v (.int .i64 a24), .s 2 a25], .one (.v (.int .i64 k))] => some (fun _ => Rw [.sl [tI]] a0 ∧ Rw [tB] a1 ∧ Rw [tI, tI] a2 ∧ Rw [tI] a4 ∧ Rw [tI, tI] a5 ∧ Rw [tI, tI, tI] a6 ∧ Rw [tI, tI, tI] a7 ∧ Rw [tI, tI, tI, tI] a8 ∧ Rw [.sl [.sl [tI]]] a9 ∧ Rw [.sl [tI, tI]] a10 ∧ Rw [.sl [tI]] a11 ∧ Rw [tI, tI, tI] a13 ∧ Rw [tI] a21 ∧ Rw [tI, .sl [tI]] a25 ∧ cntRs [a0, a1, a2, a4, a5, a6, a7, a8, a9, a10, a11, a13, a21, a25] ≤ 1099511627776 ∧ 0 ≤ k ∧ kN0 [a0, a1, a2, a4, a5, a6, a7, a8, a9, a10, a11, a13, a21, a25] k ≤ 1152921504606846976, [.s 1 (F.mkN a0 k), .s 1 (F.mkN a1 (F.kN [a0] k)), .s 2 (F.mkN a2 (F.kN [a0, a1] k)), .s 1 (F.mkN a4 (F.kN [a0, a1, a2] k)), .s 2 (F.mkN a5 (F.kN [a0, a1, a2, a4] k)), .s 3 (F.mkN a6 (F.kN [a0, a1, a2, a4, a5] k)), .s 3 (F.mkN a7 (F.kN [a0, a1, a2, a4, a5, a6] k)), .s 4 (F.mkN a8 (F.kN [a0, a1, a2, a4, a5, a6, a7] k)), .s 1 (F.mkN a9 (F.kN [a0, a1, a2, a4, a5, a6, a7, a8] k)), .s 1 (F.mkN a10 (F.kN [a0, a1, a2, a4, a5, a6, a7, a8, a9] k)), .s 1 (F.mkN a11 (F.kN [a0, a1, a2, a4, a5, a6, a7, a8, a9, a10] k)), .s 3 (F.mkN a13 (F.kN [a0, a1, a2, a4, a5, a6, a7, a8, a9, a10, a11] k)), .s 1 (F.mkN a21 (F.kN [a0, a1, a2, a4, a5, a6, a7, a8, a9, a10, a11, a13] k)), .s 2 (F.mkN a25 (F.kN [a0, a1, a2, a4, a5, a6, a7, a8, a9, a10, a11, a13, a21] k))], [.one (.v (.int .i64 (F.kN [a0, a1, a2, a4, a5, a6, a7, a8, a9, a10, a11, a13, a21, a25] k)))])
    | _ => none
  | _ => none
theorem mt_ok : MTok Tryz.prog (mt F0) := by
  intro f mk h ds pre outs res hm hp
  unfold mt at h
  split at h
  · cases h; dsimp only at hm; split at hm
    · cases hm; exact c_laws_markConfig _ _ _ _ _ _ hp
    · cases hm
  · cases h; dsimp only at hm; split at hm
    · cases hm; exact c_laws_markWorld _ _ _ _ _ _ _ _ _ _ _ _ _ _ _ _ _ _ _ _ _ _ _ _ _ _ _ hp
    · cases hm
  · cases h
def pt : Fns → PT := noPT
theorem pt_ok : PTok Tryz.prog (pt F0) := noPT_ok
end FnExactWorldNewC
theorem c_laws_FnExactWorldNew (a0 : Int) (a1 : Int) (a2 : Int) (a3 : Int) (a4 : List (List L)) (hp : (-9223372036854775808 ≤ a0 ∧ a0 ≤ 9223372036854775807) ∧ (-9223372036854775808 ≤ a1 ∧ a1 ≤ 9223372036854775807) ∧ (-9223372036854775808 ≤ a2 ∧ a2 ≤ 9223372036854775807) ∧ (-9223372036854775808 ≤ a3 ∧ a3 ≤ 9223372036854775807) ∧ Rw [tI] a4) : Ctr Tryz.prog 6 [.agg [.v (.int .i64 a0), .v (.int .i64 a1), .v (.int .i64 a2), .v (.int .i64 a3), .s 1 a4]] [.one (.v (.bool true))] := by
  obtain ⟨ha0, ha1, ha2, ha3, ha4⟩ := hp
  by_cases hs : cntRs [a4] ≤ 1048576
  case neg =>
    have hsz : szN0 [a4] 1048576 < 0 := szN_neg.2 (by omega)
    refine ctr_of (ctF := FnExactWorldNewC.ct) (mtF := FnExactWorldNewC.mt) (ptF := FnExactWorldNewC.pt) (F0 := FnExactWorldNewC.F0) tabOk FnExactWorldNewC.ct_ok FnExactWorldNewC.mt_ok FnExactWorldNewC.pt_ok mixed 96 _ [4] [.tmp 2] Tryz.func6 rfl rfl rfl rfl rfl ?_
    intro O r F hO hr hF
    cbv
    refine And.intro ?_ (caseB_intro (fun hb => ?_) (fun hb => ?_))
    · ((try subst hos); subst hO hr hF; (try simp only [stdO, SS, sub_all, ad_zero] at *); (try simp only [ncast] at *); (try simp only [Int.ofNat_eq_natCast] at *))
      exact ⟨ha4, by omega, by omega⟩
    · cbv
      repeat' first | refine And.intro ?_ ?_ | (refine caseB_intro (fun hb => ?_) (fun hb => ?_) <;> cbv)
      all_goals ((try subst hos); subst hO hr hF; (try simp only [stdO, SS, sub_all, ad_zero] at *); (try simp only [ncast] at *); (try simp only [Int.ofNat_eq_natCast] at *))
      all_goals first | trivial | exact rfl
    · exfalso
      ((try subst hos); subst hO hr hF; (try simp only [stdO, SS, sub_all, ad_zero] at *); (try simp only [ncast] at *); (try simp only [Int.ofNat_eq_natCast] at *))
      simp only [FnExactWorldNewC.F0] at hb
      omega
  case pos =>
  have hsz := szN_no hs
  have hR3' := ha4.cnt rfl
  have hsc4 : cntE a4 ≤ 1048576 := cnt_mem hs (by simp)
  obtain ⟨hR0, hR1, hR2, hR3, hR4, hR8, hR9, hR10, hRc'⟩ := hn_rws (p := a0) (f := a1) (t := a2) (l := a3) ha4 (by omega)
  have hR5 : Rw [tI, tI, tI] ([] : List (List L)) := Rw.nil
  have hR6 : Rw [tI, tI, tI] ([] : List (List L)) := Rw.nil
  have hR7 : Rw [tI, tI, tI, tI] ([] : List (List L)) := Rw.nil
  have hR11 : Rw [tI, tI, tI] ([] : List (List L)) := Rw.nil
  have hR12 : Rw [tI] ([] : List (List L)) := Rw.nil
  have hR13 : Rw [tI, .sl [tI]] ([] : List (List L)) := Rw.nil
  have hRc := cnt_more (r := ([] : List (List L))) hRc' rfl
  rw [List.cons_append, List.cons_append, List.cons_append, List.cons_append, List.cons_append, List.cons_append, List.cons_append, List.cons_append, List.cons_append, List.cons_append, List.cons_append, List.cons_append, List.cons_append, List.nil_append] at hRc
  have hsc : cntE a4 ≤ 1048576 := cnt_mem hs (by simp)
  have hRk : kN0 [hnC a0 a1 a2 a3 a4, hnU a0 a1 a2 a3 a4, hnE a0 a1 a2 a3 a4, hnR a0 a1 a2 a3 a4, hnF a0 a1 a2 a3 a4, ([] : List (List L)), ([] : List (List L)), ([] : List (List L)), hnK a0 a1 a2 a3 a4, hnM a0 a1 a2 a3 a4, hnI a0 a1 a2 a3 a4, ([] : List (List L)), ([] : List (List L)), ([] : List (List L))] 1 ≤ 1152921504606846976 := marksAll (by intro r hr; simp only [List.mem_cons, List.not_mem_nil, or_false] at hr; rcases hr with rfl | rfl | rfl | rfl | rfl | rfl | rfl | rfl | rfl | rfl | rfl | rfl | rfl | rfl; exact hR0.marks (by decide); exact hR1.marks (by decide); exact hR2.marks (by decide); exact hR3.marks (by decide); exact hR4.marks (by decide); exact hR5.marks (by decide); exact hR6.marks (by decide); exact hR7.marks (by decide); exact hR8.marks (by decide); exact hR9.marks (by decide); exact hR10.marks (by decide); exact hR11.marks (by decide); exact hR12.marks (by decide); exact hR13.marks (by decide)) hRc
  have hAk : kN0 [a4] 1 ≤ 1152921504606846976 := marksAll (by intro r hr; simp only [List.mem_cons, List.not_mem_nil, or_false] at hr; subst hr; exact ha4.marks (by decide)) (by omega)
  have hE1 : mkN0 (hnU a0 a1 a2 a3 a4) (kN0 [hnC a0 a1 a2 a3 a4] 1) = mkN0 (hnU a0 a1 a2 a3 a4) (kN0 [mkN0 (hnC a0 a1 a2 a3 a4) 1] 1) := congrArg _ (kN_mkAll (rs := [hnC a0 a1 a2 a3 a4]) (k := 1) (k' := 1)).symm
  have hE2 : mkN0 (hnE a0 a1 a2 a3 a4) (kN0 [hnC a0 a1 a2 a3 a4, hnU a0 a1 a2 a3 a4] 1) = mkN0 (hnE a0 a1 a2 a3 a4) (kN0 [mkN0 (hnC a0 a1 a2 a3 a4) 1, mkN0 (hnU a0 a1 a2 a3 a4) (kN0 [hnC a0 a1 a2 a3 a4] 1)] 1) := congrArg _ (kN_mkAll (rs := [hnC a0 a1 a2 a3 a4, hnU a0 a1 a2 a3 a4]) (k := 1) (k' := 1)).symm
  have hE3 : mkN0 (hnR a0 a1 a2 a3 a4) (kN0 [hnC a0 a1 a2 a3 a4, hnU a0 a1 a2 a3 a4, hnE a0 a1 a2 a3 a4] 1) = mkN0 (hnR a0 a1 a2 a3 a4) (kN0 [mkN0 (hnC a0 a1 a2 a3 a4) 1, mkN0 (hnU a0 a1 a2 a3 a4) (kN0 [hnC a0 a1 a2 a3 a4] 1), mkN0 (hnE a0 a1 a2 a3 a4) (kN0 [hnC a0 a1 a2 a3 a4, hnU a0 a1 a2 a3 a4] 1)] 1) := congrArg _ (kN_mkAll (rs := [hnC a0 a1 a2 a3 a4, hnU a0 a1 a2 a3 a4, hnE a0 a1 a2 a3 a4]) (k := 1) (k' := 1)).symm
  have hE4 : mkN0 (hnF a0 a1 a2 a3 a4) (kN0 [hnC a0 a1 a2 a3 a4, hnU a0 a1 a2 a3 a4, hnE a0 a1 a2 a3 a4, hnR a0 a1 a2 a3 a4] 1) = mkN0 (hnF a0 a1 a2 a3 a4) (kN0 [mkN0 (hnC a0 a1 a2 a3 a4) 1, mkN0 (hnU a0 a1 a2 a3 a4) (kN0 [hnC a0 a1 a2 a3 a4] 1), mkN0 (hnE a0 a1 a2 a3 a4) (kN0 [hnC a0 a1 a2 a3 a4, hnU a0 a1 a2 a3 a4] 1), mkN0 (hnR a0 a1 a2 a3 a4) (kN0 [hnC a0 a1 a2 a3 a4, hnU a0 a1 a2 a3 a4, hnE a0 a1 a2 a3 a4] 1)] 1) := congrArg _ (kN_mkAll (rs := [hnC a0 a1 a2 a3 a4, hnU a0 a1 a2 a3 a4, hnE a0 a1 a2 a3 a4, hnR a0 a1 a2 a3 a4]) (k := 1) (k' := 1)).symm
  have hE5 : mkN0 (([] : List (List L))) (kN0 [hnC a0 a1 a2 a3 a4, hnU a0 a1 a2 a3 a4, hnE a0 a1 a2 a3 a4, hnR a0 a1 a2 a3 a4, hnF a0 a1 a2 a3 a4] 1) = mkN0 (([] : List (List L))) (kN0 [mkN0 (hnC a0 a1 a2 a3 a4) 1, mkN0 (hnU a0 a1 a2 a3 a4) (kN0 [hnC a0 a1 a2 a3 a4] 1), mkN0 (hnE a0 a1 a2 a3 a4) (kN0 [hnC a0 a1 a2 a3 a4, hnU a0 a1 a2 a3 a4] 1), mkN0 (hnR a0 a1 a2 a3 a4) (kN0 [hnC a0 a1 a2 a3 a4, hnU a0 a1 a2 a3 a4, hnE a0 a1 a2 a3 a4] 1), mkN0 (hnF a0 a1 a2 a3 a4) (kN0 [hnC a0 a1 a2 a3 a4, hnU a0 a1 a2 a3 a4, hnE a0 a1 a2 a3 a4, hnR a0 a1 a2 a3 a4] 1)] 1) := congrArg _ (kN_mkAll (rs := [hnC a0 a1 a2 a3 a4, hnU a0 a1 a2 a3 a4, hnE a0 a1 a2 a3 a4, hnR a0 a1 a2 a3 a4, hnF a0 a1 a2 a3 a4]) (k := 1) (k' := 1)).symm
  have hE6 : mkN0 (([] : List (List L))) (kN0 [hnC a0 a1 a2 a3 a4, hnU a0 a1 a2 a3 a4, hnE a0 a1 a2 a3 a4, hnR a0 a1 a2 a3 a4, hnF a0 a1 a2 a3 a4, ([] : List (List L))] 1) = mkN0 (([] : List (List L))) (kN0 [mkN0 (hnC a0 a1 a2 a3 a4) 1, mkN0 (hnU a0 a1 a2 a3 a4) (kN0 [hnC a0 a1 a2 a3 a4] 1), mkN0 (hnE a0 a1 a2 a3 a4) (kN0 [hnC a0 a1 a2 a3 a4, hnU a0 a1 a2 a3 a4] 1), mkN0 (hnR a0 a1 a2 a3 a4) (kN0 [hnC a0 a1 a2 a3 a4, hnU a0 a1 a2 a3 a4, hnE a0 a1 a2 a3 a4] 1), mkN0 (hnF a0 a1 a2 a3 a4) (kN0 [hnC a0 a1 a2 a3 a4, hnU a0 a1 a2 a3 a4, hnE a0 a1 a2 a3 a4, hnR a0 a1 a2 a3 a4] 1), mkN0 (([] : List (List L))) (kN0 [hnC a0 a1 a2 a3 a4, hnU a0 a1 a2 a3 a4, hnE a0 a1 a2 a3 a4, hnR a0 a1 a2 a3 a4, hnF a0 a1 a2 a3 a4] 1)] 1) := congrArg _ (kN_mkAll (rs := [hnC a0 a1 a2 a3 a4, hnU a0 a1 a2 a3 a4, hnE a0 a1 a2 a3 a4, hnR a0 a1 a2 a3 a4, hnF a0 a1 a2 a3 a4, ([] : List (List L))]) (k := 1) (k' := 1)).symm
  have hE7 : mkN0 (([] : List (List L))) (kN0 [hnC a0 a1 a2 a3 a4, hnU a0 a1 a2 a3 a4, hnE a0 a1 a2 a3 a4, hnR a0 a1 a2 a3 a4, hnF a0 a1 a2 a3 a4, ([] : List (List L)), ([] : List (List L))] 1) = mkN0 (([] : List (List L))) (kN0 [mkN0 (hnC a0 a1 a2 a3 a4) 1, mkN0 (hnU a0 a1 a2 a3 a4) (kN0 [hnC a0 a1 a2 a3 a4] 1), mkN0 (hnE a0 a1 a2 a3 a4) (kN0 [hnC a0 a1 a2 a3 a4, hnU a0 a1 a2 a3 a4] 1), mkN0 (hnR a0 a1 a2 a3 a4) (kN0 [hnC a0 a1 a2 a3 a4, hnU a0 a1 a2 a3 a4, hnE a0 a1 a2 a3 a4] 1), mkN0 (hnF a0 a1 a2 a3 a4) (kN0 [hnC a0 a1 a2 a3 a4, hnU a0 a1 a2 a3 a4, hnE a0 a1 a2 a3 a4, hnR a0 a1 a2 a3 a4] 1), mkN0 (([] : List (List L))) (kN0 [hnC a0 a1 a2 a3 a4, hnU a0 a1 a2 a3 a4, hnE a0 a1 a2 a3 a4, hnR a0 a1 a2 a3 a4, hnF a0 a1 a2 a3 a4] 1), mkN0 (([] : List (List L))) (kN0 [hnC a0 a1 a2 a3 a4, hnU a0 a1 a2 a3 a4, hnE a0 a1 a2 a3 a4, hnR a0 a1 a2 a3 a4, hnF a0 a1 a2 a3 a4, ([] : List (List L))] 1)] 1) := congrArg _ (kN_mkAll (rs := [hnC a0 a1 a2 a3 a4, hnU a0 a1 a2 a3 a4, hnE a0 a1 a2 a3 a4, hnR a0 a1 a2 a3 a4, hnF a0 a1 a2 a3 a4, ([] : List (List L)), ([] : List (List L))]) (k := 1) (k' := 1)).symm
  have hE8 : mkN0 (hnK a0 a1 a2 a3 a4) (kN0 [hnC a0 a1 a2 a3 a4, hnU a0 a1 a2 a3 a4, hnE a0 a1 a2 a3 a4, hnR a0 a1 a2 a3 a4, hnF a0 a1 a2 a3 a4, ([] : List (List L)), ([] : List (List L)), ([] : List (List L))] 1) = mkN0 (hnK a0 a1 a2 a3 a4) (kN0 [mkN0 (hnC a0 a1 a2 a3 a4) 1, mkN0 (hnU a0 a1 a2 a3 a4) (kN0 [hnC a0 a1 a2 a3 a4] 1), mkN0 (hnE a0 a1 a2 a3 a4) (kN0 [hnC a0 a1 a2 a3 a4, hnU a0 a1 a2 a3 a4] 1), mkN0 (hnR a0 a1 a2 a3 a4) (kN0 [hnC a0 a1 a2 a3 a4, hnU a0 a1 a2 a3 a4, hnE a0 a1 a2 a3 a4] 1), mkN0 (hnF a0 a1 a2 a3 a4) (kN0 [hnC a0 a1 a2 a3 a4, hnU a0 a1 a2 a3 a4, hnE a0 a1 a2 a3 a4, hnR a0 a1 a2 a3 a4] 1), mkN0 (([] : List (List L))) (kN0 [hnC a0 a1 a2 a3 a4, hnU a0 a1 a2 a3 a4, hnE a0 a1 a2 a3 a4, hnR a0 a1 a2 a3 a4, hnF a0 a1 a2 a3 a4] 1), mkN0 (([] : List (List L))) (kN0 [hnC a0 a1 a2 a3 a4, hnU a0 a1 a2 a3 a4, hnE a0 a1 a2 a3 a4, hnR a0 a1 a2 a3 a4, hnF a0 a1 a2 a3 a4, ([] : List (List L))] 1), mkN0 (([] : List (List L))) (kN0 [hnC a0 a1 a2 a3 a4, hnU a0 a1 a2 a3 a4, hnE a0 a1 a2 a3 a4, hnR a0 a1 a2 a3 a4, hnF a0 a1 a2 a3 a4, ([] : List (List L)), ([] : List (List L))] 1)] 1) := congrArg _ (kN_mkAll (rs := [hnC a0 a1 a2 a3 a4, hnU a0 a1 a2 a3 a4, hnE a0 a1 a2 a3 a4, hnR a0 a1 a2 a3 a4, hnF a0 a1 a2 a3 a4, ([] : List (List L)), ([] : List (List L)), ([] : List (List L))]) (k := 1) (k' := 1)).symm
  have hE9 : mkN0 (hnM a0 a1 a2 a3 a4) (kN0 [hnC a0 a1 a2 a3 a4, hnU a0 a1 a2 a3 a4, hnE a0 a1 a2 a3 a4, hnR a0 a1 a2 a3 a4, hnF a0 a1 a2 a3 a4, ([] : List (List L)), ([] : List (List L)), ([] : List (List L)), hnK a0 a1 a2 a3 a4] 1) = mkN0 (hnM a0 a1 a2 a3 a4) (kN0 [mkN0 (hnC a0 a1 a2 a3 a4) 1, mkN0 (hnU a0 a1 a2 a3 a4) (kN0 [hnC a0 a1 a2 a3 a4] 1), mkN0 (hnE a0 a1 a2 a3 a4) (kN0 [hnC a0 a1 a2 a3 a4, hnU a0 a1 a2 a3 a4] 1), mkN0 (hnR a0 a1 a2 a3 a4) (kN0 [hnC a0 a1 a2 a3 a4, hnU a0 a1 a2 a3 a4, hnE a0 a1 a2 a3 a4] 1), mkN0 (hnF a0 a1 a2 a3 a4) (kN0 [hnC a0 a1 a2 a3 a4, hnU a0 a1 a2 a3 a4, hnE a0 a1 a2 a3 a4, hnR a0 a1 a2 a3 a4] 1), mkN0 (([] : List (List L))) (kN0 [hnC a0 a1 a2 a3 a4, hnU a0 a1 a2 a3 a4, hnE a0 a1 a2 a3 a4, hnR a0 a1 a2 a3 a4, hnF a0 a1 a2 a3 a4] 1), mkN0 (([] : List (List L))) (kN0 [hnC a0 a1 a2 a3 a4, hnU a0 a1 a2 a3 a4, hnE a0 a1 a2 a3 a4, hnR a0 a1 a2 a3 a4, hnF a0 a1 a2 a3 a4, ([] : List (List L))] 1), mkN0 (([] : List (List L))) (kN0 [hnC a0 a1 a2 a3 a4, hnU a0 a1 a2 a3 a4, hnE a0 a1 a2 a3 a4, hnR a0 a1 a2 a3 a4, hnF a0 a1 a2 a3 a4, ([] : List (List L)), ([] : List (List L))] 1), mkN0 (hnK a0 a1 a2 a3 a4) (kN0 [hnC a0 a1 a2 a3 a4, hnU a0 a1 a2 a3 a4, hnE a0 a1 a2 a3 a4, hnR a0 a1 a2 a3 a4, hnF a0 a1 a2 a3 a4, ([] : List (List L)), ([] : List (List L)), ([] : List (List L))] 1)] 1) := congrArg _ (kN_mkAll (rs := [hnC a0 a1 a2 a3 a4, hnU a0 a1 a2 a3 a4, hnE a0 a1 a2 a3 a4, hnR a0 a1 a2 a3 a4, hnF a0 a1 a2 a3 a4, ([] : List (List L)), ([] : List (List L)), ([] : List (List L)), hnK a0 a1 a2 a3 a4]) (k := 1) (k' := 1)).symm
  have hE10 : mkN0 (hnI a0 a1 a2 a3 a4) (kN0 [hnC a0 a1 a2 a3 a4, hnU a0 a1 a2 a3 a4, hnE a0 a1 a2 a3 a4, hnR a0 a1 a2 a3 a4, hnF a0 a1 a2 a3 a4, ([] : List (List L)), ([] : List (List L)), ([] : List (List L)), hnK a0 a1 a2 a3 a4, hnM a0 a1 a2 a3 a4] 1) = mkN0 (hnI a0 a1 a2 a3 a4) (kN0 [mkN0 (hnC a0 a1 a2 a3 a4) 1, mkN0 (hnU a0 a1 a2 a3 a4) (kN0 [hnC a0 a1 a2 a3 a4] 1), mkN0 (hnE a0 a1 a2 a3 a4) (kN0 [hnC a0 a1 a2 a3 a4, hnU a0 a1 a2 a3 a4] 1), mkN0 (hnR a0 a1 a2 a3 a4) (kN0 [hnC a0 a1 a2 a3 a4, hnU a0 a1 a2 a3 a4, hnE a0 a1 a2 a3 a4] 1), mkN0 (hnF a0 a1 a2 a3 a4) (kN0 [hnC a0 a1 a2 a3 a4, hnU a0 a1 a2 a3 a4, hnE a0 a1 a2 a3 a4, hnR a0 a1 a2 a3 a4] 1), mkN0 (([] : List (List L))) (kN0 [hnC a0 a1 a2 a3 a4, hnU a0 a1 a2 a3 a4, hnE a0 a1 a2 a3 a4, hnR a0 a1 a2 a3 a4, hnF a0 a1 a2 a3 a4] 1), mkN0 (([] : List (List L))) (kN0 [hnC a0 a1 a2 a3 a4, hnU a0 a1 a2 a3 a4, hnE a0 a1 a2 a3 a4, hnR a0 a1 a2 a3 a4, hnF a0 a1 a2 a3 a4, ([] : List (List L))] 1), mkN0 (([] : List (List L))) (kN0 [hnC a0 a1 a2 a3 a4, hnU a0 a1 a2 a3 a4, hnE a0 a1 a2 a3 a4, hnR a0 a1 a2 a3 a4, hnF a0 a1 a2 a3 a4, ([] : List (List L)), ([] : List (List L))] 1), mkN0 (hnK a0 a1 a2 a3 a4) (kN0 [hnC a0 a1 a2 a3 a4, hnU a0 a1 a2 a3 a4, hnE a0 a1 a2 a3 a4, hnR a0 a1 a2 a3 a4, hnF a0 a1 a2 a3 a4, ([] : List (List L)), ([] : List (List L)), ([] : List (List L))] 1), mkN0 (hnM a0 a1 a2 a3 a4) (kN0 [hnC a0 a1 a2 a3 a4, hnU a0 a1 a2 a3 a4, hnE a0 a1 a2 a3 a4, hnR a0 a1 a2 a3 a4, hnF a0 a1 a2 a3 a4, ([] : List (List L)), ([] : List (List L)), ([] : List (List L)), hnK a0 a1 a2 a3 a4] 1)] 1) := congrArg _ (kN_mkAll (rs := [hnC a0 a1 a2 a3 a4, hnU a0 a1 a2 a3 a4, hnE a0 a1 a2 a3 a4, hnR a0 a1 a2 a3 a4, hnF a0 a1 a2 a3 a4, ([] : List (List L)), ([] : List (List L)), ([] : List (List L)), hnK a0 a1 a2 a3 a4, hnM a0 a1 a2 a3 a4]) (k := 1) (k' := 1)).symm
  have hE11 : mkN0 (([] : List (List L))) (kN0 [hnC a0 a1 a2 a3 a4, hnU a0 a1 a2 a3 a4, hnE a0 a1 a2 a3 a4, hnR a0 a1 a2 a3 a4, hnF a0 a1 a2 a3 a4, ([] : List (List L)), ([] : List (List L)), ([] : List (List L)), hnK a0 a1 a2 a3 a4, hnM a0 a1 a2 a3 a4, hnI a0 a1 a2 a3 a4] 1) = mkN0 (([] : List (List L))) (kN0 [mkN0 (hnC a0 a1 a2 a3 a4) 1, mkN0 (hnU a0 a1 a2 a3 a4) (kN0 [hnC a0 a1 a2 a3 a4] 1), mkN0 (hnE a0 a1 a2 a3 a4) (kN0 [hnC a0 a1 a2 a3 a4, hnU a0 a1 a2 a3 a4] 1), mkN0 (hnR a0 a1 a2 a3 a4) (kN0 [hnC a0 a1 a2 a3 a4, hnU a0 a1 a2 a3 a4, hnE a0 a1 a2 a3 a4] 1), mkN0 (hnF a0 a1 a2 a3 a4) (kN0 [hnC a0 a1 a2 a3 a4, hnU a0 a1 a2 a3 a4, hnE a0 a1 a2 a3 a4, hnR a0 a1 a2 a3 a4] 1), mkN0 (([] : List (List L))) (kN0 [hnC a0 a1 a2 a3 a4, hnU a0 a1 a2 a3 a4, hnE a0 a1 a2 a3 a4, hnR a0 a1 a2 a3 a4, hnF a0 a1 a2 a3 a4] 1), mkN0 (([] : List (List L))) (kN0 [hnC a0 a1 a2 a3 a4, hnU a0 a1 a2 a3 a4, hnE a0 a1 a2 a3 a4, hnR a0 a1 a2 a3 a4, hnF a0 a1 a2 a3 a4, ([] : List (List L))] 1), mkN0 (([] : List (List L))) (kN0 [hnC a0 a1 a2 a3 a4, hnU a0 a1 a2 a3 a4, hnE a0 a1 a2 a3 a4, hnR a0 a1 a2 a3 a4, hnF a0 a1 a2 a3 a4, ([] : List (List L)), ([] : List (List L))] 1), mkN0 (hnK a0 a1 a2 a3 a4) (kN0 [hnC a0 a1 a2 a3 a4, hnU a0 a1 a2 a3 a4, hnE a0 a1 a2 a3 a4, hnR a0 a1 a2 a3 a4, hnF a0 a1 a2 a3 a4, ([] : List (List L)), ([] : List (List L)), ([] : List (List L))] 1), mkN0 (hnM a0 a1 a2 a3 a4) (kN0 [hnC a0 a1 a2 a3 a4, hnU a0 a1 a2 a3 a4, hnE a0 a1 a2 a3 a4, hnR a0 a1 a2 a3 a4, hnF a0 a1 a2 a3 a4, ([] : List (List L)), ([] : List (List L)), ([] : List (List L)), hnK a0 a1 a2 a3 a4] 1), mkN0 (hnI a0 a1 a2 a3 a4) (kN0 [hnC a0 a1 a2 a3 a4, hnU a0 a1 a2 a3 a4, hnE a0 a1 a2 a3 a4, hnR a0 a1 a2 a3 a4, hnF a0 a1 a2 a3 a4, ([] : List (List L)), ([] : List (List L)), ([] : List (List L)), hnK a0 a1 a2 a3 a4, hnM a0 a1 a2 a3 a4] 1)] 1) := congrArg _ (kN_mkAll (rs := [hnC a0 a1 a2 a3 a4, hnU a0 a1 a2 a3 a4, hnE a0 a1 a2 a3 a4, hnR a0 a1 a2 a3 a4, hnF a0 a1 a2 a3 a4, ([] : List (List L)), ([] : List (List L)), ([] : List (List L)), hnK a0 a1 a2 a3 a4, hnM a0 a1 a2 a3 a4, hnI a0 a1 a2 a3 a4]) (k := 1) (k' := 1)).symm
  have hE12 : mkN0 (([] : List (List L))) (kN0 [hnC a0 a1 a2 a3 a4, hnU a0 a1 a2 a3 a4, hnE a0 a1 a2 a3 a4, hnR a0 a1 a2 a3 a4, hnF a0 a1 a2 a3 a4, ([] : List (List L)), ([] : List (List L)), ([] : List (List L)), hnK a0 a1 a2 a3 a4, hnM a0 a1 a2 a3 a4, hnI a0 a1 a2 a3 a4, ([] : List (List L))] 1) = mkN0 (([] : List (List L))) (kN0 [mkN0 (hnC a0 a1 a2 a3 a4) 1, mkN0 (hnU a0 a1 a2 a3 a4) (kN0 [hnC a0 a1 a2 a3 a4] 1), mkN0 (hnE a0 a1 a2 a3 a4) (kN0 [hnC a0 a1 a2 a3 a4, hnU a0 a1 a2 a3 a4] 1), mkN0 (hnR a0 a1 a2 a3 a4) (kN0 [hnC a0 a1 a2 a3 a4, hnU a0 a1 a2 a3 a4, hnE a0 a1 a2 a3 a4] 1), mkN0 (hnF a0 a1 a2 a3 a4) (kN0 [hnC a0 a1 a2 a3 a4, hnU a0 a1 a2 a3 a4, hnE a0 a1 a2 a3 a4, hnR a0 a1 a2 a3 a4] 1), mkN0 (([] : List (List L))) (kN0 [hnC a0 a1 a2 a3 a4, hnU a0 a1 a2 a3 a4, hnE a0 a1 a2 a3 a4, hnR a0 a1 a2 a3 a4, hnF a0 a1 a2 a3 a4] 1), mkN0 (([] : List (List L))) (kN0 [hnC a0 a1 a2 a3 a4, hnU a0 a1 a2 a3 a4, hnE a0 a1 a2 a3 a4, hnR a0 a1 a2 a3 a4, hnF a0 a1 a2 a3 a4, ([] : List (List L))] 1), mkN0 (([] : List (List L))) (kN0 [hnC a0 a1 a2 a3 a4, hnU a0 a1 a2 a3 a4, hnE a0 a1 a2 a3 a4, hnR a0 a1 a2 a3 a4, hnF a0 a1 a2 a3 a4, ([] : List (List L)), ([] : List (List L))] 1), mkN0 (hnK a0 a1 a2 a3 a4) (kN0 [hnC a0 a1 a2 a3 a4, hnU a0 a1 a2 a3 a4, hnE a0 a1 a2 a3 a4, hnR a0 a1 a2 a3 a4, hnF a0 a1 a2 a3 a4, ([] : List (List L)), ([] : List (List L)), ([] : List (List L))] 1), mkN0 (hnM a0 a1 a2 a3 a4) (kN0 [hnC a0 a1 a2 a3 a4, hnU a0 a1 a2 a3 a4, hnE a0 a1 a2 a3 a4, hnR a0 a1 a2 a3 a4, hnF a0 a1 a2 a3 a4, ([] : List (List L)), ([] : List (List L)), ([] : List (List L)), hnK a0 a1 a2 a3 a4] 1), mkN0 (hnI a0 a1 a2 a3 a4) (kN0 [hnC a0 a1 a2 a3 a4, hnU a0 a1 a2 a3 a4, hnE a0 a1 a2 a3 a4, hnR a0 a1 a2 a3 a4, hnF a0 a1 a2 a3 a4, ([] : List (List L)), ([] : List (List L)), ([] : List (List L)), hnK a0 a1 a2 a3 a4, hnM a0 a1 a2 a3 a4] 1), mkN0 (([] : List (List L))) (kN0 [hnC a0 a1 a2 a3 a4, hnU a0 a1 a2 a3 a4, hnE a0 a1 a2 a3 a4, hnR a0 a1 a2 a3 a4, hnF a0 a1 a2 a3 a4, ([] : List (List L)), ([] : List (List L)), ([] : List (List L)), hnK a0 a1 a2 a3 a4, hnM a0 a1 a2 a3 a4, hnI a0 a1 a2 a3 a4] 1)] 1) := congrArg _ (kN_mkAll (rs := [hnC a0 a1 a2 a3 a4, hnU a0 a1 a2 a3 a4, hnE a0 a1 a2 a3 a4, hnR a0 a1 a2 a3 a4, hnF a0 a1 a2 a3 a4, ([] : List (List L)), ([] : List (List L)), ([] : List (List L)), hnK a0 a1 a2 a3 a4, hnM a0 a1 a2 a3 a4, hnI a0 a1 a2 a3 a4, ([] : List (List L))]) (k := 1) (k' := 1)).symm
  have hE13 : mkN0 (([] : List (List L))) (kN0 [hnC a0 a1 a2 a3 a4, hnU a0 a1 a2 a3 a4, hnE a0 a1 a2 a3 a4, hnR a0 a1 a2 a3 a4, hnF a0 a1 a2 a3 a4, ([] : List (List L)), ([] : List (List L)), ([] : List (List L)), hnK a0 a1 a2 a3 a4, hnM a0 a1 a2 a3 a4, hnI a0 a1 a2 a3 a4, ([] : List (List L)), ([] : List (List L))] 1) = mkN0 (([] : List (List L))) (kN0 [mkN0 (hnC a0 a1 a2 a3 a4) 1, mkN0 (hnU a0 a1 a2 a3 a4) (kN0 [hnC a0 a1 a2 a3 a4] 1), mkN0 (hnE a0 a1 a2 a3 a4) (kN0 [hnC a0 a1 a2 a3 a4, hnU a0 a1 a2 a3 a4] 1), mkN0 (hnR a0 a1 a2 a3 a4) (kN0 [hnC a0 a1 a2 a3 a4, hnU a0 a1 a2 a3 a4, hnE a0 a1 a2 a3 a4] 1), mkN0 (hnF a0 a1 a2 a3 a4) (kN0 [hnC a0 a1 a2 a3 a4, hnU a0 a1 a2 a3 a4, hnE a0 a1 a2 a3 a4, hnR a0 a1 a2 a3 a4] 1), mkN0 (([] : List (List L))) (kN0 [hnC a0 a1 a2 a3 a4, hnU a0 a1 a2 a3 a4, hnE a0 a1 a2 a3 a4, hnR a0 a1 a2 a3 a4, hnF a0 a1 a2 a3 a4] 1), mkN0 (([] : List (List L))) (kN0 [hnC a0 a1 a2 a3 a4, hnU a0 a1 a2 a3 a4, hnE a0 a1 a2 a3 a4, hnR a0 a1 a2 a3 a4, hnF a0 a1 a2 a3 a4, ([] : List (List L))] 1), mkN0 (([] : List (List L))) (kN0 [hnC a0 a1 a2 a3 a4, hnU a0 a1 a2 a3 a4, hnE a0 a1 a2 a3 a4, hnR a0 a1 a2 a3 a4, hnF a0 a1 a2 a3 a4, ([] : List (List L)), ([] : List (List L))] 1), mkN0 (hnK a0 a1 a2 a3 a4) (kN0 [hnC a0 a1 a2 a3 a4, hnU a0 a1 a2 a3 a4, hnE a0 a1 a2 a3 a4, hnR a0 a1 a2 a3 a4, hnF a0 a1 a2 a3 a4, ([] : List (List L)), ([] : List (List L)), ([] : List (List L))] 1), mkN0 (hnM a0 a1 a2 a3 a4) (kN0 [hnC a0 a1 a2 a3 a4, hnU a0 a1 a2 a3 a4, hnE a0 a1 a2 a3 a4, hnR a0 a1 a2 a3 a4, hnF a0 a1 a2 a3 a4, ([] : List (List L)), ([] : List (List L)), ([] : List (List L)), hnK a0 a1 a2 a3 a4] 1), mkN0 (hnI a0 a1 a2 a3 a4) (kN0 [hnC a0 a1 a2 a3 a4, hnU a0 a1 a2 a3 a4, hnE a0 a1 a2 a3 a4, hnR a0 a1 a2 a3 a4, hnF a0 a1 a2 a3 a4, ([] : List (List L)), ([] : List (List L)), ([] : List (List L)), hnK a0 a1 a2 a3 a4, hnM a0 a1 a2 a3 a4] 1), mkN0 (([] : List (List L))) (kN0 [hnC a0 a1 a2 a3 a4, hnU a0 a1 a2 a3 a4, hnE a0 a1 a2 a3 a4, hnR a0 a1 a2 a3 a4, hnF a0 a1 a2 a3 a4, ([] : List (List L)), ([] : List (List L)), ([] : List (List L)), hnK a0 a1 a2 a3 a4, hnM a0 a1 a2 a3 a4, hnI a0 a1 a2 a3 a4] 1), mkN0 (([] : List (List L))) (kN0 [hnC a0 a1 a2 a3 a4, hnU a0 a1 a2 a3 a4, hnE a0 a1 a2 a3 a4, hnR a0 a1 a2 a3 a4, hnF a0 a1 a2 a3 a4, ([] : List (List L)), ([] : List (List L)), ([] : List (List L)), hnK a0 a1 a2 a3 a4, hnM a0 a1 a2 a3 a4, hnI a0 a1 a2 a3 a4, ([] : List (List L))] 1)] 1) := congrArg _ (kN_mkAll (rs := [hnC a0 a1 a2 a3 a4, hnU a0 a1 a2 a3 a4, hnE a0 a1 a2 a3 a4, hnR a0 a1 a2 a3 a4, hnF a0 a1 a2 a3 a4, ([] : List (List L)), ([] : List (List L)), ([] : List (List L)), hnK a0 a1 a2 a3 a4, hnM a0 a1 a2 a3 a4, hnI a0 a1 a2 a3 a4, ([] : List (List L)), ([] : List (List L))]) (k := 1) (k' := 1)).symm
  have hM : kN0 [mkN0 (hnC a0 a1 a2 a3 a4) 1, mkN0 (hnU a0 a1 a2 a3 a4) (kN0 [hnC a0 a1 a2 a3 a4] 1), mkN0 (hnE a0 a1 a2 a3 a4) (kN0 [hnC a0 a1 a2 a3 a4, hnU a0 a1 a2 a3 a4] 1), mkN0 (hnR a0 a1 a2 a3 a4) (kN0 [hnC a0 a1 a2 a3 a4, hnU a0 a1 a2 a3 a4, hnE a0 a1 a2 a3 a4] 1), mkN0 (hnF a0 a1 a2 a3 a4) (kN0 [hnC a0 a1 a2 a3 a4, hnU a0 a1 a2 a3 a4, hnE a0 a1 a2 a3 a4, hnR a0 a1 a2 a3 a4] 1), mkN0 (([] : List (List L))) (kN0 [hnC a0 a1 a2 a3 a4, hnU a0 a1 a2 a3 a4, hnE a0 a1 a2 a3 a4, hnR a0 a1 a2 a3 a4, hnF a0 a1 a2 a3 a4] 1), mkN0 (([] : List (List L))) (kN0 [hnC a0 a1 a2 a3 a4, hnU a0 a1 a2 a3 a4, hnE a0 a1 a2 a3 a4, hnR a0 a1 a2 a3 a4, hnF a0 a1 a2 a3 a4, ([] : List (List L))] 1), mkN0 (([] : List (List L))) (kN0 [hnC a0 a1 a2 a3 a4, hnU a0 a1 a2 a3 a4, hnE a0 a1 a2 a3 a4, hnR a0 a1 a2 a3 a4, hnF a0 a1 a2 a3 a4, ([] : List (List L)), ([] : List (List L))] 1), mkN0 (hnK a0 a1 a2 a3 a4) (kN0 [hnC a0 a1 a2 a3 a4, hnU a0 a1 a2 a3 a4, hnE a0 a1 a2 a3 a4, hnR a0 a1 a2 a3 a4, hnF a0 a1 a2 a3 a4, ([] : List (List L)), ([] : List (List L)), ([] : List (List L))] 1), mkN0 (hnM a0 a1 a2 a3 a4) (kN0 [hnC a0 a1 a2 a3 a4, hnU a0 a1 a2 a3 a4, hnE a0 a1 a2 a3 a4, hnR a0 a1 a2 a3 a4, hnF a0 a1 a2 a3 a4, ([] : List (List L)), ([] : List (List L)), ([] : List (List L)), hnK a0 a1 a2 a3 a4] 1), mkN0 (hnI a0 a1 a2 a3 a4) (kN0 [hnC a0 a1 a2 a3 a4, hnU a0 a1 a2 a3 a4, hnE a0 a1 a2 a3 a4, hnR a0 a1 a2 a3 a4, hnF a0 a1 a2 a3 a4, ([] : List (List L)), ([] : List (List L)), ([] : List (List L)), hnK a0 a1 a2 a3 a4, hnM a0 a1 a2 a3 a4] 1), mkN0 (([] : List (List L))) (kN0 [hnC a0 a1 a2 a3 a4, hnU a0 a1 a2 a3 a4, hnE a0 a1 a2 a3 a4, hnR a0 a1 a2 a3 a4, hnF a0 a1 a2 a3 a4, ([] : List (List L)), ([] : List (List L)), ([] : List (List L)), hnK a0 a1 a2 a3 a4, hnM a0 a1 a2 a3 a4, hnI a0 a1 a2 a3 a4] 1), mkN0 (([] : List (List L))) (kN0 [hnC a0 a1 a2 a3 a4, hnU a0 a1 a2 a3 a4, hnE a0 a1 a2 a3 a4, hnR a0 a1 a2 a3 a4, hnF a0 a1 a2 a3 a4, ([] : List (List L)), ([] : List (List L)), ([] : List (List L)), hnK a0 a1 a2 a3 a4, hnM a0 a1 a2 a3 a4, hnI a0 a1 a2 a3 a4, ([] : List (List L))] 1), mkN0 (([] : List (List L))) (kN0 [hnC a0 a1 a2 a3 a4, hnU a0 a1 a2 a3 a4, hnE a0 a1 a2 a3 a4, hnR a0 a1 a2 a3 a4, hnF a0 a1 a2 a3 a4, ([] : List (List L)), ([] : List (List L)), ([] : List (List L)), hnK a0 a1 a2 a3 a4, hnM a0 a1 a2 a3 a4, hnI a0 a1 a2 a3 a4, ([] : List (List L)), ([] : List (List L))] 1)] 1 = kN0 [hnC a0 a1 a2 a3 a4, hnU a0 a1 a2 a3 a4, hnE a0 a1 a2 a3 a4, hnR a0 a1 a2 a3 a4, hnF a0 a1 a2 a3 a4, ([] : List (List L)), ([] : List (List L)), ([] : List (List L)), hnK a0 a1 a2 a3 a4, hnM a0 a1 a2 a3 a4, hnI a0 a1 a2 a3 a4, ([] : List (List L)), ([] : List (List L)), ([] : List (List L))] 1 := kN_mkAll (rs := [hnC a0 a1 a2 a3 a4, hnU a0 a1 a2 a3 a4, hnE a0 a1 a2 a3 a4, hnR a0 a1 a2 a3 a4, hnF a0 a1 a2 a3 a4, ([] : List (List L)), ([] : List (List L)), ([] : List (List L)), hnK a0 a1 a2 a3 a4, hnM a0 a1 a2 a3 a4, hnI a0 a1 a2 a3 a4, ([] : List (List L)), ([] : List (List L)), ([] : List (List L))]) (k := 1) (k' := 1)
  have hRm : cntE (hnC a0 a1 a2 a3 a4) ≤ 1099511627776 ∧ cntE (hnU a0 a1 a2 a3 a4) ≤ 1099511627776 ∧ cntE (hnE a0 a1 a2 a3 a4) ≤ 1099511627776 ∧ cntE (hnR a0 a1 a2 a3 a4) ≤ 1099511627776 ∧ cntE (hnF a0 a1 a2 a3 a4) ≤ 1099511627776 ∧ cntE (([] : List (List L))) ≤ 1099511627776 ∧ cntE (([] : List (List L))) ≤ 1099511627776 ∧ cntE (([] : List (List L))) ≤ 1099511627776 ∧ cntE (hnK a0 a1 a2 a3 a4) ≤ 1099511627776 ∧ cntE (hnM a0 a1 a2 a3 a4) ≤ 1099511627776 ∧ cntE (hnI a0 a1 a2 a3 a4) ≤ 1099511627776 ∧ cntE (([] : List (List L))) ≤ 1099511627776 ∧ cntE (([] : List (List L))) ≤ 1099511627776 ∧ cntE (([] : List (List L))) ≤ 1099511627776 := ⟨cnt_mem hRc (by simp), cnt_mem hRc (by simp), cnt_mem hRc (by simp), cnt_mem hRc (by simp), cnt_mem hRc (by simp), cnt_mem hRc (by simp), cnt_mem hRc (by simp), cnt_mem hRc (by simp), cnt_mem hRc (by simp), cnt_mem hRc (by simp), cnt_mem hRc (by simp), cnt_mem hRc (by simp), cnt_mem hRc (by simp), cnt_mem hRc (by simp)⟩
  refine ctr_of (ctF := FnExactWorldNewC.ct) (mtF := FnExactWorldNewC.mt) (ptF := FnExactWorldNewC.pt) (F0 := FnExactWorldNewC.F0) tabOk FnExactWorldNewC.ct_ok FnExactWorldNewC.mt_ok FnExactWorldNewC.pt_ok mixed 96 _ [4] [.tmp 2] Tryz.func6 rfl rfl rfl rfl rfl ?_
  intro O r F hO hr hF
  cbv
  repeat' first | refine And.intro ?_ ?_ | (refine caseB_intro (fun hb => ?_) (fun hb => ?_) <;> cbv)
  all_goals ((try subst hos); subst hO hr hF; (try simp only [stdO, SS, sub_all, ad_zero] at *); (try simp only [ncast] at *); (try simp only [Int.ofNat_eq_natCast] at *))
  all_goals (try simp only [FnExactWorldNewC.F0, subI_mk] at *)
  all_goals first
    | exact True.intro
    | (show okOrder _ _ = true; kernel_rfl)
    | exact ⟨True.intro, True.intro⟩
    | exact ⟨ha4, by omega, by omega⟩
    | exact ⟨ha4, hs⟩
    | exact ha4
    | exact ⟨trivial, ha4, by omega⟩
    | exact ⟨rfl, ha4, by omega⟩
    | exact ⟨ha4, by omega, by omega, hAk⟩
    | exact ⟨trivial, hR0, hR1, hR2, hR3, hR4, hR5, hR6, hR7, hR8, hR9, hR10, hR11, hR12, hR13, hRc⟩
    | exact ⟨rfl, hR0, hR1, hR2, hR3, hR4, hR5, hR6, hR7, hR8, hR9, hR10, hR11, hR12, hR13, hRc⟩
    | exact ⟨hR0, hR1, hR2, hR3, hR4, hR5, hR6, hR7, hR8, hR9, hR10, hR11, hR12, hR13, hRc, by omega, hRk⟩
    | exact ⟨⟨_, rfl, hR0, hRm.1⟩, ⟨_, hE1, hR1, hRm.2.1⟩, ⟨_, hE2, hR2, hRm.2.2.1⟩, ⟨_, hE3, hR3, hRm.2.2.2.1⟩, ⟨_, hE4, hR4, hRm.2.2.2.2.1⟩, ⟨_, hE5, hR5, hRm.2.2.2.2.2.1⟩, ⟨_, hE6, hR6, hRm.2.2.2.2.2.2.1⟩, ⟨_, hE7, hR7, hRm.2.2.2.2.2.2.2.1⟩, ⟨_, hE8, hR8, hRm.2.2.2.2.2.2.2.2.1⟩, ⟨_, hE9, hR9, hRm.2.2.2.2.2.2.2.2.2.1⟩, ⟨_, hE10, hR10, hRm.2.2.2.2.2.2.2.2.2.2.1⟩, ⟨_, hE11, hR11, hRm.2.2.2.2.2.2.2.2.2.2.2.1⟩, ⟨_, hE12, hR12, hRm.2.2.2.2.2.2.2.2.2.2.2.2.1⟩, ⟨_, hE13, hR13, hRm.2.2.2.2.2.2.2.2.2.2.2.2.2⟩, by omega, le_of_eq_of_le hM hRk⟩
    | exact mkN_length
    | exact absurd (by assumption) (kN_pos (by omega))
    | exact absurd hM (by assumption)
    | exact absurd (by assumption) (by rw [hM]; exact kN_pos (by omega))
    | exact ⟨ha4, by omega⟩
    | exact rfl
    | exact absurd rfl (by assumption)
    | (exfalso; omega)
    | trivial
    | trace_state
theorem r_FnExactWorldNew (recs : List (List L)) (h : confs [(true, [tI, tI, tI, tI, .sl [tI]])] recs) : Ctr Tryz.prog 6 (argDVs [(true, [tI, tI, tI, tI, .sl [tI]])] recs) [.one (.v (.bool true))] := by
  match recs, h with
  | [[.v (.int _ a0), .v (.int _ a1), .v (.int _ a2), .v (.int _ a3), .s _ a4]], h =>
    simp only [confs, confR, confL] at h
    obtain ⟨⟨⟨rfl, ha0⟩, ⟨rfl, ha1⟩, ⟨rfl, ha2⟩, ⟨rfl, ha3⟩, ⟨rfl, ha4, ka4⟩, _⟩, _⟩ := h
    exact c_laws_FnExactWorldNew a0 a1 a2 a3 a4 ⟨ihas ha0, ihas ha1, ihas ha2, ihas ha3, ⟨ha4, ka4⟩⟩

end Go.V
