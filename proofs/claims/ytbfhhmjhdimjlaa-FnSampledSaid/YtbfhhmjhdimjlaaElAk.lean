/-
  Contracts of functions, by evaluation of conditions on their code.
-/
import Derived.Test.YtbfhhmjhdimjlaaS8
import Derived.Test.YtbfhhmjhdimjlaaH20
import Derived.Test.YtbfhhmjhdimjlaaSampAk

set_option linter.all false
namespace Go.V
open Go Go.Proofs
set_option maxRecDepth 1000000
set_option maxHeartbeats 8000000
namespace L1
structure Fns where
  bgB : List (List L) → Bool
  dsz : List (List L) → List (List L)
  dpl : List (List L) → List (List L)
  smp : List (List L) → Int → Int → List (List L)
  lgS : List (List L) → Int
def F0 : Fns := ⟨bgB, dsz, dpl, smp, lgS⟩
def ct (F : Fns) : CT := fun f ds => match f with
  | 11 => match ds with
    | [.one (.s 1 cs)] => some (fun _ => cs.length ≤ maxLen, [.one (.v (.bool (F.bgB cs)))])
    | _ => none
  | 12 => match ds with
    | [.one (.s 1 cs)] => some (fun _ => Rw [tU] cs ∧ cs.length ≤ 1048576, [.one (.s 1 (F.dsz cs))])
    | _ => none
  | 13 => match ds with
    | [.one (.s 1 cs)] => some (fun _ => Rw [tU] cs ∧ cs.length ≤ 1048576, [.one (.s 1 (F.dpl cs))])
    | _ => none
  | 14 => match ds with
    | [.one (.s 1 sz), .one (.v (.int .i64 ev)), .one (.v (.int .i64 st))] => some (fun _ => Rw [tI] sz ∧ szOk sz ∧ 1 ≤ ev ∧ ev ≤ 1000 ∧ 0 ≤ st ∧ st < ev, [.one (.s 2 (F.smp sz ev st))])
    | _ => none
  | 15 => match ds with
    | [.one (.s 2 l)] => some (fun _ => Rw [tI, tI] l ∧ l.length ≤ 1048576, [.one (.v (.int .i64 (F.lgS l)))])
    | _ => none
  | _ => none
theorem ct_ok : CTok Try.prog (ct F0) := by
  intro f ds pre res h hp
  unfold ct at h
  split at h
  · split at h
    · cases h; exact c_laws_big _ hp
    · cases h
  · split at h
    · cases h; exact c_spec_DrawSizes _ hp
    · cases h
  · split at h
    · cases h; exact c_spec_DrawPlaces _ hp
    · cases h
  · split at h
    · cases h; exact c_impl_SampleOf _ _ _ hp
    · cases h
  · split at h
    · cases h; exact c_impl_LargestSample _ hp
    · cases h
  · cases h
def mt : Fns → MT := noMT
theorem mt_ok : MTok Try.prog (mt F0) := noMT_ok
def pt : Fns → PT := noPT
theorem pt_ok : PTok Try.prog (pt F0) := noPT_ok
def nt : Fns → NT := noNT
theorem nt_ok : NTok Try.prog (nt F0) := noNT_ok
def ot : Fns → OT := noOT
theorem ot_ok : OTok Try.prog (ot F0) := noOT_ok
end L1
theorem c_laws_FnSampled (cs : List (List L)) (hp : Rw [tU] cs) : Ctr Try.prog 3 [.one (.s 1 cs)] [.one (.v (.bool true))] := by
  have hw := hp
  have hml := hw.1
  have hd := dpl_len (cs := cs)
  have hr := dpl_rw (cs := cs)
  have hz := dsz_rw' (cs := cs)
  have hzl := dsz_len (cs := cs)
  have hev := ev_b (cs := cs) (m := 20) (by omega) (by omega)
  have hst := st_b (cs := cs) (m := 20) (by omega) (by omega)
  have hso := smL_ok (cs := cs) (m := 20) (by omega) (by omega)
  have hsl := hso.2.1
  have hsw := hso.1
  refine ctr_of (ctF := L1.ct) (mtF := L1.mt) (ptF := L1.pt) (ntF := L1.nt) (otF := L1.ot) (F0 := L1.F0) tabOk L1.ct_ok L1.mt_ok L1.pt_ok L1.nt_ok L1.ot_ok mixed 87 _ [4] [.tmp 2] Try.func3 rfl rfl rfl rfl rfl ?_
  intro O r F hO hr hF
  cbv
  repeat' first | refine And.intro ?_ ?_ | (refine caseB_intro (fun hb => ?_) (fun hb => ?_) <;> cbv) | (refine ⟨[3, 5, 6, 7, 8], [3, 6], Int × Int, fun s_ => match s_ with | (i, n) => [.reg 8 (.one (.v (.int .i64 i))), .reg 7 (.one (.v (.int .i64 n)))], fun s_ => match s_ with | (i, n) => 0 ≤ i ∧ i ≤ ((dsz cs).length : Int) ∧ n = cgN (dsz cs) (evS cs 20) i.toNat, fun s_ => match s_ with | (i, n) => (dsz cs).length - i.toNat, ⟨(0, 0), ?_, ?_⟩, ?_⟩; rotate_left; (focus (cbv; done)); intro s_ hi; obtain ⟨i, n⟩ := s_; replace hi : 0 ≤ i ∧ i ≤ ((dsz cs).length : Int) ∧ n = cgN (dsz cs) (evS cs 20) i.toNat := hi; obtain ⟨i0, i1, i2⟩ := hi; cbv) | (refine ⟨[5, 6, 7, 9, 10], [6], Int × Int, fun s_ => match s_ with | (j, m) => [.reg 10 (.one (.v (.int .i64 j))), .reg 9 (.one (.v (.int .i64 m)))], fun s_ => match s_ with | (j, m) => 0 ≤ j ∧ j ≤ ((smL cs 20).length : Int) ∧ m = cgN (smL cs 20) (evS cs 20) j.toNat, fun s_ => match s_ with | (j, m) => (smL cs 20).length - j.toNat, ⟨(0, 0), ?_, ?_⟩, ?_⟩; rotate_left; (focus (cbv; done)); intro s_ hj; obtain ⟨j, m⟩ := s_; replace hj : 0 ≤ j ∧ j ≤ ((smL cs 20).length : Int) ∧ m = cgN (smL cs 20) (evS cs 20) j.toNat := hj; obtain ⟨j0, j1, j2⟩ := hj; cbv) | (refine loop_step (O.ar .add .i64 j 1, O.ar .add .i64 m 1) ?_ ?_ ?_; rotate_left 2; focus (cbv; done)) | (refine loop_step (O.ar .add .i64 j 1, m) ?_ ?_ ?_; rotate_left 2; focus (cbv; done)) | (refine loop_step (O.ar .add .i64 i 1, O.ar .add .i64 n 1) ?_ ?_ ?_; rotate_left 2; focus (cbv; done)) | (refine loop_step (O.ar .add .i64 i 1, n) ?_ ?_ ?_; rotate_left 2; focus (cbv; done))
  all_goals ((try subst hos); subst hO hr hF; (try simp only [stdO, SS, sub_all, ad_zero] at *); (try simp only [ncast] at *); (try simp only [Int.ofNat_eq_natCast] at *))
  all_goals (try simp only [L1.F0] at *)
  all_goals (try simp only [show piI (L.s 1 (dpl cs)) [(Int.toNat 0, 0)] = giI (dpl cs) 0 0 from pi_at (by omega), show piI (L.s 1 (dpl cs)) [(Int.toNat 1, 0)] = giI (dpl cs) 1 0 from pi_at (by omega)] at *)
  all_goals (try simp only [show arI .add .i64 1 (arI .rem .i64 (giI (dpl cs) 0 0) 20) = evS cs 20 from rfl] at *)
  all_goals (try simp only [show arI .rem .i64 (giI (dpl cs) 1 0) (evS cs 20) = stS cs 20 from rfl] at *)
  all_goals (try simp only [show smp (dsz cs) (evS cs 20) (stS cs 20) = smL cs 20 from rfl] at *)
  all_goals try rw [up64 (by omega) (by omega)]
  all_goals try (have hl := bg_no (cs := cs) (by assumption))
  all_goals try (have pi0 := pi_at (w := 1) (l := dsz cs) (j := 0) i0; simp only [pi0] at *)
  all_goals try (have pj0 := pi_at (w := 2) (l := smL cs 20) (j := 0) j0; have pj1 := pi_at (w := 2) (l := smL cs 20) (j := 1) j0; simp only [pj0, pj1] at *)
  all_goals try (have hat := smL_at (cs := cs) (m := 20) (by omega) (by omega) j0 (by omega))
  all_goals try (have cb := cg_b (l := dsz cs) (ev := evS cs 20) (n := i.toNat); have en : arI .add .i64 n 1 = n + 1 := add64 (by omega); simp only [en])
  all_goals try (have cb := cg_b (l := smL cs 20) (ev := evS cs 20) (n := j.toNat); have en : arI .add .i64 m 1 = m + 1 := add64 (by omega); simp only [en])
  all_goals try (have ei : arI .add .i64 i 1 = i + 1 := add64 (by omega); simp only [ei])
  all_goals try (have ej : arI .add .i64 j 1 = j + 1 := add64 (by omega); simp only [ej])
  all_goals first
    | (show (_ : List DV) = _
       first
         | exact rfl
         | (exfalso; omega)
         | (refine dbt ?_; simp only [cmpI, lg40, decide_eq_true_eq]; exact Int.le_trans (smL_lg (by omega) (by omega)) (by omega))
         | (exfalso; have e1 : j.toNat = (smL cs 20).length := (by omega); have e2 : i.toNat = (dsz cs).length := (by omega); rw [e1, smL_cg (by omega) (by omega)] at j2; rw [e2] at i2; omega)
         | done)
    | omega
    | exact ⟨hw, hl⟩
    | exact hml
    | exact ⟨True.intro, True.intro⟩
    | exact ⟨trivial, trivial⟩
    | exact ⟨hz, dsz_sz, by omega, by omega, by omega, by omega⟩
    | exact ⟨hsw, by omega⟩
    | exact ⟨r40, by decide⟩
    | exact get_int hr (by omega) (by omega)
    | exact get_int hz (by omega) (by omega)
    | exact get_at2 hsw j0 (by omega) (by omega)
    | (rw [cg_yes i0 (by assumption)]; omega)
    | (rw [cg_no i0 (by omega)]; omega)
    | (rw [cg_yes j0 (by assumption)]; omega)
    | (rw [cg_no j0 (by omega)]; omega)
    | (refine ⟨by omega, by omega, Eq.trans (Rw.eta (fs := _) (by (first | assumption | exact Rw.sub (by first | assumption | exact Rw.sub (by assumption) (by omega) rfl) (by omega) rfl)) (by omega) (by omega)) ?_⟩; rfl)
    | (show okOrder _ _ = true; kernel_rfl)
    | exact rfl
    | exact Int.natCast_nonneg _
    | exact True.intro
    | done
theorem r_FnSampled (recs : List (List L)) (h : confs [(false, [.sl [tU]])] recs) : Ctr Try.prog 3 (argDVs [(false, [.sl [tU]])] recs) [.one (.v (.bool true))] := by
  match recs, h with
  | [[.s _ a0]], h =>
    simp only [confs, confR, confL] at h
    obtain ⟨⟨⟨rfl, ha0, ka0⟩, _⟩, _⟩ := h
    exact c_laws_FnSampled a0 ⟨ha0, ka0⟩

end Go.V
