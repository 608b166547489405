/-
  Contracts of functions, by evaluation of conditions on their code.
-/
import Derived.Test.YtbfhhmjhdimjlaaS8
import Derived.Test.YtbfhhmjhdimjlaaH21
import Derived.Test.YtbfhhmjhdimjlaaSampAk

set_option linter.all false
namespace Go.V
open Go Go.Proofs
set_option maxRecDepth 1000000
set_option maxHeartbeats 8000000
namespace L2
structure Fns where
  bgB : List (List L) → Bool
  dsz : List (List L) → List (List L)
  dpl : List (List L) → List (List L)
  smp : List (List L) → Int → Int → List (List L)
  wtS : List (List L) → Int
  suS : List (List L) → Int → Int
def F0 : Fns := ⟨bgB, dsz, dpl, smp, wtS, suS⟩
def ct (F : Fns) : CT := fun f ds => match f with
  | 11 => match ds with
    | [.one (.s 1 cs)] => some (fun _ => cs.length ≤ maxLen, [.one (.v (.bool (F.bgB cs)))])
    | _ => none
  | 12 => match ds with
    | [.one (.s 1 cs)] => some (fun _ => Rw [tU] cs ∧ cs.length ≤ 1048576, [.one (.s 1 (F.dsz cs))])
    | _ => none
  | 13 => match ds with
    | [.one (.s 1 cs)] => some (fun _ => Rw [tU] cs ∧ cs.length ≤ 1048576, [.one (.s 1 (F.dpl cs))])
    | _ => none
  | 14 => match ds with
    | [.one (.s 1 sz), .one (.v (.int .i64 ev)), .one (.v (.int .i64 st))] => some (fun _ => Rw [tI] sz ∧ szOk sz ∧ 1 ≤ ev ∧ ev ≤ 1000 ∧ 0 ≤ st ∧ st < ev, [.one (.s 2 (F.smp sz ev st))])
    | _ => none
  | 16 => match ds with
    | [.one (.s 2 l)] => some (fun _ => smOk l, [.one (.v (.int .i64 (F.wtS l)))])
    | _ => none
  | 17 => match ds with
    | [.one (.s 1 sz), .one (.v (.int .i64 ev))] => some (fun _ => Rw [tI] sz ∧ szOk sz ∧ 1 ≤ ev ∧ ev ≤ 1000, [.one (.v (.int .i64 (F.suS sz ev)))])
    | _ => none
  | _ => none
theorem ct_ok : CTok Try.prog (ct F0) := by
  intro f ds pre res h hp
  unfold ct at h
  split at h
  · split at h
    · cases h; exact c_laws_big _ hp
    · cases h
  · split at h
    · cases h; exact c_spec_DrawSizes _ hp
    · cases h
  · split at h
    · cases h; exact c_spec_DrawPlaces _ hp
    · cases h
  · split at h
    · cases h; exact c_impl_SampleOf _ _ _ hp
    · cases h
  · split at h
    · cases h; exact c_impl_SampleCells _ hp
    · cases h
  · split at h
    · cases h; exact c_impl_SumOverStarts _ _ hp
    · cases h
  · cases h
def mt : Fns → MT := noMT
theorem mt_ok : MTok Try.prog (mt F0) := noMT_ok
def pt : Fns → PT := noPT
theorem pt_ok : PTok Try.prog (pt F0) := noPT_ok
def nt : Fns → NT := noNT
theorem nt_ok : NTok Try.prog (nt F0) := noNT_ok
def ot : Fns → OT := noOT
theorem ot_ok : OTok Try.prog (ot F0) := noOT_ok
end L2
theorem c_laws_FnUnbiased (cs : List (List L)) (hp : Rw [tU] cs) : Ctr Try.prog 4 [.one (.s 1 cs)] [.one (.v (.bool true))] := by
  have hw := hp
  have hml := hw.1
  have hd := dpl_len (cs := cs)
  have hr := dpl_rw (cs := cs)
  have hz := dsz_rw' (cs := cs)
  have hzl := dsz_len (cs := cs)
  have hev := ev_b (cs := cs) (m := 40) (by omega) (by omega)
  have hst := st_b (cs := cs) (m := 40) (by omega) (by omega)
  have hso := smL_ok (cs := cs) (m := 40) (by omega) (by omega)
  refine ctr_of (ctF := L2.ct) (mtF := L2.mt) (ptF := L2.pt) (ntF := L2.nt) (otF := L2.ot) (F0 := L2.F0) tabOk L2.ct_ok L2.mt_ok L2.pt_ok L2.nt_ok L2.ot_ok mixed 62 _ [4] [.tmp 2] Try.func4 rfl rfl rfl rfl rfl ?_
  intro O r F hO hr hF
  cbv
  repeat' first | refine And.intro ?_ ?_ | (refine caseB_intro (fun hb => ?_) (fun hb => ?_) <;> cbv) | (refine ⟨[3, 4, 5, 6, 7], [3, 4], Int × Int, fun s_ => match s_ with | (i, n) => [.reg 7 (.one (.v (.int .i64 i))), .reg 6 (.one (.v (.int .i64 n)))], fun s_ => match s_ with | (i, n) => 0 ≤ i ∧ i ≤ ((dsz cs).length : Int) ∧ n = totN (dsz cs) i.toNat, fun s_ => match s_ with | (i, n) => (dsz cs).length - i.toNat, ⟨(0, 0), ?_, ?_⟩, ?_⟩; rotate_left; (focus (cbv; done)); intro s_ hi; obtain ⟨i, n⟩ := s_; replace hi : 0 ≤ i ∧ i ≤ ((dsz cs).length : Int) ∧ n = totN (dsz cs) i.toNat := hi; obtain ⟨i0, i1, i2⟩ := hi; cbv) | (refine loop_step (O.ar .add .i64 i 1, O.ar .add .i64 n (O.pi (.s 1 (F.dsz cs)) [(O.ad 0 i, 0)])) ?_ ?_ ?_; rotate_left 2; focus (cbv; done))
  all_goals ((try subst hos); subst hO hr hF; (try simp only [stdO, SS, sub_all, ad_zero] at *); (try simp only [ncast] at *); (try simp only [Int.ofNat_eq_natCast] at *))
  all_goals (try simp only [L2.F0] at *)
  all_goals (try simp only [show piI (L.s 1 (dpl cs)) [(Int.toNat 0, 0)] = giI (dpl cs) 0 0 from pi_at (by omega), show piI (L.s 1 (dpl cs)) [(Int.toNat 1, 0)] = giI (dpl cs) 1 0 from pi_at (by omega)] at *)
  all_goals (try simp only [show arI .add .i64 1 (arI .rem .i64 (giI (dpl cs) 0 0) 40) = evS cs 40 from rfl] at *)
  all_goals (try simp only [show arI .rem .i64 (giI (dpl cs) 1 0) (evS cs 40) = stS cs 40 from rfl] at *)
  all_goals (try simp only [show smp (dsz cs) (evS cs 40) (stS cs 40) = smL cs 40 from rfl] at *)
  all_goals try rw [up64 (by omega) (by omega)]
  all_goals try (have hl := bg_no (cs := cs) (by assumption))
  all_goals try (have pi0 := pi_at (w := 1) (l := dsz cs) (j := 0) i0; simp only [pi0] at *)
  all_goals try (have tb := tot_b (dsz_sz (cs := cs)) (n := i.toNat) (by omega); have gb := (dsz_sz (cs := cs)).2 i i0 (by omega); have en : arI .add .i64 n (giI (dsz cs) i 0) = n + giI (dsz cs) i 0 := add64 (by omega); simp only [en])
  all_goals try (have en : n = totN (dsz cs) (dsz cs).length := (by rw [i2]; congr 1; omega); have tb := tot_d (cs := cs); have w := smL_w (cs := cs) (m := 40) (by omega) (by omega); subst en; have e1 : arI .add .i64 (totN (dsz cs) (dsz cs).length) (evS cs 40) = totN (dsz cs) (dsz cs).length + evS cs 40 := add64 (by omega); have e2 : arI .sub .i64 (totN (dsz cs) (dsz cs).length) (evS cs 40) = totN (dsz cs) (dsz cs).length - evS cs 40 := sub64 (by omega))
  all_goals first
    | (show (_ : List DV) = _
       first
         | exact rfl
         | (exfalso; omega)
         | (exfalso; have q := mean_d (cs := cs) (m := 40) (by omega) (by omega); exact absurd q.symm (by assumption))
         | (refine dbt ?_; rw [e1]; simp only [cmpI, decide_eq_true_eq]; omega)
         | done)
    | omega
    | exact ⟨hw, hl⟩
    | exact hml
    | exact hso
    | exact ⟨True.intro, True.intro⟩
    | exact ⟨trivial, trivial⟩
    | exact ⟨hz, dsz_sz, by omega, by omega, by omega, by omega⟩
    | exact ⟨hz, dsz_sz, by omega, by omega⟩
    | exact get_int hr (by omega) (by omega)
    | exact get_int hz (by omega) (by omega)
    | (rw [tot_up i0]; omega)
    | (refine ⟨by omega, by omega, Eq.trans (Rw.eta (fs := _) (by (first | assumption | exact Rw.sub (by first | assumption | exact Rw.sub (by assumption) (by omega) rfl) (by omega) rfl)) (by omega) (by omega)) ?_⟩; rfl)
    | (show okOrder _ _ = true; kernel_rfl)
    | exact rfl
    | exact Int.natCast_nonneg _
    | exact True.intro
    | done
theorem r_FnUnbiased (recs : List (List L)) (h : confs [(false, [.sl [tU]])] recs) : Ctr Try.prog 4 (argDVs [(false, [.sl [tU]])] recs) [.one (.v (.bool true))] := by
  match recs, h with
  | [[.s _ a0]], h =>
    simp only [confs, confR, confL] at h
    obtain ⟨⟨⟨rfl, ha0, ka0⟩, _⟩, _⟩ := h
    exact c_laws_FnUnbiased a0 ⟨ha0, ka0⟩

end Go.V
