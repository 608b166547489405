/-
  Contracts of functions, by evaluation of conditions on their code.
-/
import Derived.Test.YtbfhhmjhdimjlaaS8
import Derived.Test.YtbfhhmjhdimjlaaH27
import Derived.Test.YtbfhhmjhdimjlaaMachDk
import Derived.Test.YtbfhhmjhdimjlaaSameAk

set_option linter.all false
namespace Go.V
open Go Go.Proofs
set_option maxRecDepth 1000000
set_option maxHeartbeats 8000000
namespace Lw0
structure Fns where
  no : Unit
def F0 : Fns := ⟨()⟩
def ct : Fns → CT := noC
theorem ct_ok : CTok Try.prog (ct F0) := noC_ok
def mt : Fns → MT := noMT
theorem mt_ok : MTok Try.prog (mt F0) := noMT_ok
def pt : Fns → PT := noPT
theorem pt_ok : PTok Try.prog (pt F0) := noPT_ok
def nt : Fns → NT := noNT
theorem nt_ok : NTok Try.prog (nt F0) := noNT_ok
def ot : Fns → OT := noOT
theorem ot_ok : OTok Try.prog (ot F0) := noOT_ok
end Lw0
theorem c_laws_big (cs : List (List L)) (hp : cs.length ≤ maxLen) : Ctr Try.prog 11 [.one (.s 1 cs)] [.one (.v (.bool (bgB cs)))] := by
  refine ctr_of (ctF := Lw0.ct) (mtF := Lw0.mt) (ptF := Lw0.pt) (ntF := Lw0.nt) (otF := Lw0.ot) (F0 := Lw0.F0) tabOk Lw0.ct_ok Lw0.mt_ok Lw0.pt_ok Lw0.nt_ok Lw0.ot_ok mixed 6 _ [4] [.tmp 2] Try.func11 rfl rfl rfl rfl rfl ?_
  intro O r F hO hr hF
  cbv
  repeat' first | refine And.intro ?_ ?_ | (refine caseB_intro (fun hb => ?_) (fun hb => ?_) <;> cbv)
  all_goals ((try subst hos); subst hO hr hF; (try simp only [stdO, SS, sub_all, ad_zero] at *); (try simp only [ncast] at *); (try simp only [Int.ofNat_eq_natCast] at *))
  all_goals first
    | (show (_ : List DV) = _
       first
         | exact db_eq (b_iff (by unfold bgB; simp only [SS, decide_eq_true_eq]))
         | done)
    | exact hp
    | exact True.intro
    | done
namespace Lw1
structure Fns where
  bgB : List (List L) → Bool
  dmC : List (List L) → List (List L)
  dmU : List (List L) → List (List L)
  dmE : List (List L) → List (List L)
  cnC : List (List L) → List (List L) → List (List L) → List (List L)
  cnU : List (List L) → List (List L) → List (List L) → List (List L)
  cnT : List (List L) → List (List L) → List (List L) → List (List L)
  machOk : List (List L) → List (List L) → List (List L) → Bool
  cpC : List (List L) → List (List L) → List (List L) → Int → List (List L)
  cpU : List (List L) → List (List L) → List (List L) → Int → List (List L)
  cpT : List (List L) → List (List L) → List (List L) → Int → List (List L)
  isOk : List (List L) → List (List L) → List (List L) → Int → Bool
def F0 : Fns := ⟨bgB, dmC, dmU, dmE, cnC, cnU, cnT, machOk, cpC, cpU, cpT, isOk⟩
def ct (F : Fns) : CT := fun f ds => match f with
  | 11 => match ds with
    | [.one (.s 1 cs)] => some (fun _ => cs.length ≤ maxLen, [.one (.v (.bool (F.bgB cs)))])
    | _ => none
  | 30 => match ds with
    | [.one (.s 1 cs)] => some (fun _ => Rw [tU] cs ∧ cs.length ≤ 1048576, [.agg [.s 1 (F.dmC cs), .s 1 (F.dmU cs), .s 2 (F.dmE cs)]])
    | _ => none
  | 31 => match ds with
    | [.agg [.s 1 cs, .s 1 us, .s 2 es]] => some (fun _ => Rw [.sl [tI]] cs ∧ Rw [tB] us ∧ Rw [tI, tI] es ∧ cntE cs ≤ 1099511627776, [.agg [.s 1 (F.cnC cs us es), .s 1 (F.cnU cs us es), .s 1 (F.cnT cs us es)], .one (.v (.bool (F.machOk cs us es)))])
    | _ => none
  | 32 => match ds with
    | [.agg [.s 1 cs, .s 1 us, .s 1 ts], .one (.v (.int .i64 wh))] => some (fun _ => Rw [.sl [tI]] cs ∧ Rw [tB] us ∧ Rw [.sl [tI, tI]] ts ∧ cntE cs ≤ 1099511627776, [.agg [.s 1 (F.cpC cs us ts wh), .s 1 (F.cpU cs us ts wh), .s 2 (F.cpT cs us ts wh)], .one (.v (.bool (F.isOk cs us ts wh)))])
    | _ => none
  | 33 => match ds with
    | [.agg [.s 1 a, .s 1 u, .s 2 t], .agg [.s 1 b, .s 1 v, .s 2 s]] => some (fun _ => a = b ∧ u = v ∧ t = s ∧ Rw [.sl [tI]] a ∧ Rw [tB] u ∧ Rw [tI, tI] t, [.one (.v (.bool true))])
    | _ => none
  | _ => none
theorem ct_ok : CTok Try.prog (ct F0) := by
  intro f ds pre res h hp
  unfold ct at h
  split at h
  · split at h
    · cases h; exact c_laws_big _ hp
    · cases h
  · split at h
    · cases h; exact c_spec_DrawMachine _ hp
    · cases h
  · split at h
    · cases h; exact c_impl_CowNew _ _ _ hp
    · cases h
  · split at h
    · cases h; exact c_impl_CowDrop _ _ _ _ hp
    · cases h
  · split at h
    · cases h; exact c_laws_sameMachine _ _ _ _ _ _ hp
    · cases h
  · cases h
def mt : Fns → MT := noMT
theorem mt_ok : MTok Try.prog (mt F0) := noMT_ok
def pt : Fns → PT := noPT
theorem pt_ok : PTok Try.prog (pt F0) := noPT_ok
def nt : Fns → NT := noNT
theorem nt_ok : NTok Try.prog (nt F0) := noNT_ok
def ot : Fns → OT := noOT
theorem ot_ok : OTok Try.prog (ot F0) := noOT_ok
end Lw1
theorem c_laws_FnForkDropped (cs : List (List L)) (hp : Rw [tU] cs) : Ctr Try.prog 8 [.one (.s 1 cs)] [.one (.v (.bool true))] := by
  have hw := hp
  have hml := hw.1
  obtain ⟨dm, rc, ru, re⟩ := l7_mach (cs := cs) (h := l01h cs) (Int.le_refl 0) (Int.natCast_nonneg _)
  have sz := l7_sz (cs := cs) (h := l01h cs) (Int.le_refl 0) (Int.natCast_nonneg _)
  replace dm : machOk (dmC cs) (dmU cs) (dmE cs) = true := dm
  replace rc : Rw [.sl [tI]] (dmC cs) := rc
  replace ru : Rw [tB] (dmU cs) := ru
  replace re : Rw [tI, tI] (dmE cs) := re
  replace sz : cntE (dmC cs) ≤ 1000 := sz.1
  have rt : Rw [.sl [tI, tI]] (twT (dmE cs)) := (cn_wf rc ru re).2.2 |> fun q => by rw [(cn_yes dm).2.2] at q; exact q
  have cn : cnC (dmC cs) (dmU cs) (dmE cs) = dmC cs ∧ cnU (dmC cs) (dmU cs) (dmE cs) = dmU cs ∧ cnT (dmC cs) (dmU cs) (dmE cs) = twT (dmE cs) := cn_yes dm
  have d0 := drop_tw (w := 0) dm rc ru (by omega) (by omega)
  have d1 := drop_tw (w := 1) dm rc ru (by omega) (by omega)
  have i0 := is_tw (w := 0) dm (by omega) (by omega)
  have i1 := is_tw (w := 1) dm (by omega) (by omega)
  have i2 : isOk (dmC cs) (dmU cs) (twT (dmE cs)) 2 = false := is_f.2 (by omega)
  refine ctr_of (ctF := Lw1.ct) (mtF := Lw1.mt) (ptF := Lw1.pt) (ntF := Lw1.nt) (otF := Lw1.ot) (F0 := Lw1.F0) tabOk Lw1.ct_ok Lw1.mt_ok Lw1.pt_ok Lw1.nt_ok Lw1.ot_ok mixed 57 _ [4] [.tmp 2] Try.func8 rfl rfl rfl rfl rfl ?_
  intro O r F hO hr hF
  cbv
  repeat' first | refine And.intro ?_ ?_ | (refine caseB_intro (fun hb => ?_) (fun hb => ?_) <;> cbv)
  all_goals ((try subst hos); subst hO hr hF; (try simp only [stdO, SS, sub_all, ad_zero] at *); (try simp only [ncast] at *); (try simp only [Int.ofNat_eq_natCast] at *))
  all_goals (try simp only [Lw1.F0] at *)
  all_goals (try simp only [cn.1, cn.2.1, cn.2.2, d0.1, d0.2.1, d0.2.2, d1.1, d1.2.1, d1.2.2, i0, i1, i2, dm])
  all_goals first
    | (show (_ : List DV) = _
       first
         | exact rfl
         | (exfalso; simp only [cn.1, cn.2.1, cn.2.2, i0, i1, i2, dm] at *; first | contradiction | (rename_i q; exact absurd q (by decide)))
         | done)
    | exact hml
    | exact ⟨hw, bg_no (by assumption)⟩
    | exact ⟨rc, ru, re, by omega⟩
    | exact ⟨rc, ru, rt, by omega⟩
    | exact ⟨rfl, rfl, rfl, rc, ru, re⟩
    | exact ⟨trivial, trivial, trivial, rc, ru, re⟩
    | exact ⟨True.intro, True.intro⟩
    | exact ⟨trivial, trivial⟩
    | exact True.intro
    | (show okOrder _ _ = true; kernel_rfl)
    | done
theorem r_FnForkDropped (recs : List (List L)) (h : confs [(false, [.sl [tU]])] recs) : Ctr Try.prog 8 (argDVs [(false, [.sl [tU]])] recs) [.one (.v (.bool true))] := by
  match recs, h with
  | [[.s _ a0]], h =>
    simp only [confs, confR, confL] at h
    obtain ⟨⟨⟨rfl, ha0, ka0⟩, _⟩, _⟩ := h
    exact c_laws_FnForkDropped a0 ⟨ha0, ka0⟩

end Go.V
