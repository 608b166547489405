/-
  Contracts of functions, by evaluation of conditions on their code.
-/
import Derived.Test.YtbfhhmjhdimjlaaS8
import Derived.Test.YtbfhhmjhdimjlaaH19
import Derived.Test.YtbfhhmjhdimjlaaDrawk

set_option linter.all false
namespace Go.V
open Go Go.Proofs
set_option maxRecDepth 1000000
set_option maxHeartbeats 8000000
namespace A0
structure Fns where
  no : Unit
def F0 : Fns := ⟨()⟩
def ct : Fns → CT := noC
theorem ct_ok : CTok Try.prog (ct F0) := noC_ok
def mt : Fns → MT := noMT
theorem mt_ok : MTok Try.prog (mt F0) := noMT_ok
def pt : Fns → PT := noPT
theorem pt_ok : PTok Try.prog (pt F0) := noPT_ok
def nt : Fns → NT := noNT
theorem nt_ok : NTok Try.prog (nt F0) := noNT_ok
def ot : Fns → OT := noOT
theorem ot_ok : OTok Try.prog (ot F0) := noOT_ok
end A0
theorem c_impl_between (x a b : Int) (hp : True) : Ctr Try.prog 46 [.one (.v (.int .i64 x)), .one (.v (.int .i64 a)), .one (.v (.int .i64 b))] [.one (.v (.bool (inR x a b)))] := by
  refine ctr_of (ctF := A0.ct) (mtF := A0.mt) (ptF := A0.pt) (ntF := A0.nt) (otF := A0.ot) (F0 := A0.F0) tabOk A0.ct_ok A0.mt_ok A0.pt_ok A0.nt_ok A0.ot_ok mixed 15 _ [4] [.tmp 6] Try.func46 rfl rfl rfl rfl rfl ?_
  intro O r F hO hr hF
  cbv
  repeat' first | refine And.intro ?_ ?_ | (refine caseB_intro (fun hb => ?_) (fun hb => ?_) <;> cbv)
  all_goals ((try subst hos); subst hO hr hF; (try simp only [stdO, SS, sub_all, ad_zero] at *); (try simp only [ncast] at *); (try simp only [Int.ofNat_eq_natCast] at *))
  all_goals refine db_eq ?_
  · exact b_iff (by rw [inR_t]; simp only [SS]; omega)
  · exact (inR_f.2 (by omega)).symm
theorem c_laws_big (cs : List (List L)) (hp : cs.length ≤ maxLen) : Ctr Try.prog 11 [.one (.s 1 cs)] [.one (.v (.bool (bgB cs)))] := by
  refine ctr_of (ctF := A0.ct) (mtF := A0.mt) (ptF := A0.pt) (ntF := A0.nt) (otF := A0.ot) (F0 := A0.F0) tabOk A0.ct_ok A0.mt_ok A0.pt_ok A0.nt_ok A0.ot_ok mixed 6 _ [4] [.tmp 2] Try.func11 rfl rfl rfl rfl rfl ?_
  intro O r F hO hr hF
  cbv
  repeat' first | refine And.intro ?_ ?_ | (refine caseB_intro (fun hb => ?_) (fun hb => ?_) <;> cbv)
  all_goals ((try subst hos); subst hO hr hF; (try simp only [stdO, SS, sub_all, ad_zero] at *); (try simp only [ncast] at *); (try simp only [Int.ofNat_eq_natCast] at *))
  all_goals first
    | (show (_ : List DV) = _
       first
         | exact db_eq (b_iff (by unfold bgB; simp only [SS, decide_eq_true_eq]))
         | done)
    | exact hp
    | exact True.intro
    | done
namespace A1
structure Fns where
  inR : Int → Int → Int → Bool
def F0 : Fns := ⟨inR⟩
def ct (F : Fns) : CT := fun f ds => match f with
  | 46 => match ds with
    | [.one (.v (.int .i64 x)), .one (.v (.int .i64 a)), .one (.v (.int .i64 b))] => some (fun _ => True, [.one (.v (.bool (F.inR x a b)))])
    | _ => none
  | _ => none
theorem ct_ok : CTok Try.prog (ct F0) := by
  intro f ds pre res h hp
  unfold ct at h
  split at h
  · split at h
    · cases h; exact c_impl_between _ _ _ hp
    · cases h
  · cases h
def mt : Fns → MT := noMT
theorem mt_ok : MTok Try.prog (mt F0) := noMT_ok
def pt : Fns → PT := noPT
theorem pt_ok : PTok Try.prog (pt F0) := noPT_ok
def nt : Fns → NT := noNT
theorem nt_ok : NTok Try.prog (nt F0) := noNT_ok
def ot : Fns → OT := noOT
theorem ot_ok : OTok Try.prog (ot F0) := noOT_ok
end A1
theorem c_impl_sampleOk (sz : List (List L)) (ev : Int) (hp : Rw [tI] sz ∧ szOk sz ∧ 1 ≤ ev ∧ ev ≤ 1000) : Ctr Try.prog 45 [.one (.s 1 sz), .one (.v (.int .i64 ev))] [.one (.v (.bool true))] := by
  obtain ⟨hw, hs, h1, h2⟩ := hp
  have hl := hs.1
  refine ctr_of (ctF := A1.ct) (mtF := A1.mt) (ptF := A1.pt) (ntF := A1.nt) (otF := A1.ot) (F0 := A1.F0) tabOk A1.ct_ok A1.mt_ok A1.pt_ok A1.nt_ok A1.ot_ok mixed 24 _ [4] [.tmp 4] Try.func45 rfl rfl rfl rfl rfl ?_
  intro O r F hO hr hF
  cbv
  repeat' first | refine And.intro ?_ ?_ | (refine caseB_intro (fun hb => ?_) (fun hb => ?_) <;> cbv) | (refine ⟨[0, 1, 7, 8, 9], [], Int, fun i => [.reg 9 (.one (.v (.int .i64 i)))], fun i => 0 ≤ i ∧ i ≤ (sz.length : Int), fun i => sz.length - i.toNat, ⟨0, ?_, ?_⟩, ?_⟩; rotate_left; (focus (cbv; done)); intro i hi; replace hi : 0 ≤ i ∧ i ≤ (sz.length : Int) := hi; obtain ⟨i0, i1⟩ := hi; cbv) | (refine loop_step (O.ar .add .i64 i 1) ?_ ?_ ?_; rotate_left 2; focus (cbv; done))
  all_goals ((try subst hos); subst hO hr hF; (try simp only [stdO, SS, sub_all, ad_zero] at *); (try simp only [ncast] at *); (try simp only [Int.ofNat_eq_natCast] at *))
  all_goals (try simp only [A1.F0] at *)
  all_goals try rw [up64 (by omega) (by omega)]
  all_goals try (have hb := hs.2 i i0 (by assumption))
  all_goals first
    | (show (_ : List DV) = _
       first
         | exact db_eq (inR_t.2 ⟨h1, h2⟩)
         | (exfalso; have q := inR_t.2 hb; simp_all; done)
         | (exfalso; omega)
         | done)
    | omega
    | (refine ⟨by omega, by omega, Eq.trans (Rw.eta (fs := _) (by (first | assumption | exact Rw.sub (by first | assumption | exact Rw.sub (by assumption) (by omega) rfl) (by omega) rfl)) (by omega) (by omega)) ?_⟩; rfl)
    | exact True.intro
    | (exfalso; omega)
    | done
namespace A2
structure Fns where
  inR : Int → Int → Int → Bool
def F0 : Fns := ⟨inR⟩
def ct (F : Fns) : CT := fun f ds => match f with
  | 46 => match ds with
    | [.one (.v (.int .i64 x)), .one (.v (.int .i64 a)), .one (.v (.int .i64 b))] => some (fun _ => True, [.one (.v (.bool (F.inR x a b)))])
    | _ => none
  | 45 => match ds with
    | [.one (.s 1 sz), .one (.v (.int .i64 ev))] => some (fun _ => Rw [tI] sz ∧ szOk sz ∧ 1 ≤ ev ∧ ev ≤ 1000, [.one (.v (.bool true))])
    | _ => none
  | _ => none
theorem ct_ok : CTok Try.prog (ct F0) := by
  intro f ds pre res h hp
  unfold ct at h
  split at h
  · split at h
    · cases h; exact c_impl_between _ _ _ hp
    · cases h
  · split at h
    · cases h; exact c_impl_sampleOk _ _ hp
    · cases h
  · cases h
def mt : Fns → MT := noMT
theorem mt_ok : MTok Try.prog (mt F0) := noMT_ok
def pt : Fns → PT := noPT
theorem pt_ok : PTok Try.prog (pt F0) := noPT_ok
def nt : Fns → NT := noNT
theorem nt_ok : NTok Try.prog (nt F0) := noNT_ok
def ot : Fns → OT := noOT
theorem ot_ok : OTok Try.prog (ot F0) := noOT_ok
end A2
theorem c_impl_SampleOf (sz : List (List L)) (ev st : Int) (hp : Rw [tI] sz ∧ szOk sz ∧ 1 ≤ ev ∧ ev ≤ 1000 ∧ 0 ≤ st ∧ st < ev) : Ctr Try.prog 14 [.one (.s 1 sz), .one (.v (.int .i64 ev)), .one (.v (.int .i64 st))] [.one (.s 2 (smp sz ev st))] := by
  obtain ⟨hw, hs, h1, h2, h3, h4⟩ := hp
  have hl := hs.1
  have e1 : arI .sub .i64 ev 1 = ev - 1 := sub64 (by omega)
  refine ctr_of (ctF := A2.ct) (mtF := A2.mt) (ptF := A2.pt) (ntF := A2.nt) (otF := A2.ot) (F0 := A2.F0) tabOk A2.ct_ok A2.mt_ok A2.pt_ok A2.nt_ok A2.ot_ok mixed 55 _ [26] [.tmp 6] Try.func14 rfl rfl rfl rfl rfl ?_
  intro O r F hO hr hF
  cbv
  repeat' first | refine And.intro ?_ ?_ | (refine caseB_intro (fun hb => ?_) (fun hb => ?_) <;> cbv) | (refine ⟨[1, 7, 8, 9, 26, 27, 28], [7], Int × Int × Int × List (List L), fun s_ => match s_ with | (i, nx, e, out) => [.reg 28 (.one (.v (.int .i64 i))), .reg 8 (.one (.v (.int .i64 nx))), .reg 9 (.one (.v (.int .i64 e))), .reg 7 (.one (.vw 7 0 0 0 (O.ln out))), .leaf 7 0 ⟨0, 0, none, .own (.s 2 out)⟩], fun s_ => match s_ with | (i, nx, e, out) => 0 ≤ i ∧ i ≤ (sz.length : Int) ∧ (out, nx, e) = smS sz ev st i.toNat, fun s_ => match s_ with | (i, nx, e, out) => sz.length - i.toNat, ⟨(0, st, 0, []), ?_, ?_⟩, ?_⟩; rotate_left; (focus (cbv; done)); intro s_ hi; obtain ⟨i, nx, e, out⟩ := s_; replace hi : 0 ≤ i ∧ i ≤ (sz.length : Int) ∧ (out, nx, e) = smS sz ev st i.toNat := hi; obtain ⟨i0, i1, i2⟩ := hi; cbv) | (refine ⟨[1, 7, 8, 9, 11, 12, 26, 27, 28], [7], Int × Int, fun s_ => match s_ with | (x, n) => [.reg 8 (.one (.v (.int .i64 x))), .reg 12 (.one (.v (.int .i64 n)))], fun s_ => match s_ with | (x, n) => 0 ≤ n ∧ n ≤ 1000000 ∧ x = nx + n * ev ∧ n ≤ x - nx ∧ (n = 0 ∨ x - ev < arI .add .i64 e (giI sz i 0)), fun s_ => match s_ with | (x, n) => (arI .add .i64 e (giI sz i 0) - x).toNat, ⟨(nx, 0), ?_, ?_⟩, ?_⟩; rotate_left; (focus (cbv; done)); intro s_ hx; obtain ⟨x, n⟩ := s_; replace hx : 0 ≤ n ∧ n ≤ 1000000 ∧ x = nx + n * ev ∧ n ≤ x - nx ∧ (n = 0 ∨ x - ev < arI .add .i64 e (giI sz i 0)) := hx; obtain ⟨x0, x1, x2, x3, x4⟩ := hx; cbv) | (refine loop_step (O.ar .add .i64 x ev, O.ar .add .i64 n 1) ?_ ?_ ?_; rotate_left 2; focus (cbv; done)) | (refine loop_step (O.ar .add .i64 i 1, x, O.ar .add .i64 e (O.gi sz i 0), O.cat out (O.sub [[.v (.int .i64 (O.gi sz i 0)), .v (.int .i64 (O.ar .mul .i64 n ev))]] 0 (O.ln [[.v (.int .i64 (O.gi sz i 0)), .v (.int .i64 (O.ar .mul .i64 n ev))]]))) ?_ ?_ ?_; rotate_left 2; focus (cbv; done)) | (refine loop_step (O.ar .add .i64 i 1, x, O.ar .add .i64 e (O.gi sz i 0), out) ?_ ?_ ?_; rotate_left 2; focus (cbv; done))
  all_goals ((try subst hos); subst hO hr hF; (try simp only [stdO, SS, sub_all, ad_zero] at *); (try simp only [ncast] at *); (try simp only [Int.ofNat_eq_natCast] at *))
  all_goals (try simp only [A2.F0] at *)
  all_goals try rw [up64 (by omega) (by omega)]
  all_goals try (have bb := so_b hs h1 h3 h4 i2 i0 i1)
  all_goals try (have hg := hs.2 i i0 (by assumption); have ea : arI .add .i64 e (giI sz i 0) = e + giI sz i 0 := add64 (by omega); simp only [ea] at *)
  all_goals try (have ex : arI .add .i64 x ev = x + ev := add64 (by omega); simp only [ex])
  all_goals try (have em : (n + 1) * ev = n * ev + ev := (by rw [Int.add_mul, Int.one_mul]))
  all_goals try (have em2 : arI .mul .i64 n ev = n * ev := mul64 (by omega); try rw [em2])
  all_goals first
    | (show (_ : List DV) = _
       first
         | exact row2_eq (by have q : i.toNat = sz.length := (by omega); rw [q] at i2; exact congrArg (·.1) i2)
         | (exfalso; rw [e1] at hb; have q : inR st 0 (ev - 1) = true := inR_t.2 ⟨by omega, by omega⟩; rw [q] at hb; cases hb; done)
         | (exfalso; cases hb; done)
         | done)
    | omega
    | exact ⟨True.intro, True.intro⟩
    | exact ⟨trivial, trivial⟩
    | (show _ = smS _ _ _ _
       first
         | exact rfl
         | exact so_yes i2 i0 h1 x2 (by omega) x4 (by omega)
         | exact so_no i2 i0 h1 x2 x0 (by omega) x4 (by omega)
         | done)
    | exact ⟨hw, hs, h1, h2⟩
    | (refine ⟨by omega, by omega, Eq.trans (Rw.eta (fs := _) (by (first | assumption | exact Rw.sub (by first | assumption | exact Rw.sub (by assumption) (by omega) rfl) (by omega) rfl)) (by omega) (by omega)) ?_⟩; rfl)
    | (show okOrder _ _ = true; kernel_rfl)
    | exact ⟨⟨trivial, trivial⟩, trivial⟩
    | (simp only [List.length_nil, List.length_cons, List.length_append]; omega)
    | exact Int.natCast_nonneg _
    | exact True.intro
    | done
theorem c_impl_SampleCells (l : List (List L)) (hp : smOk l) : Ctr Try.prog 16 [.one (.s 2 l)] [.one (.v (.int .i64 (wtS l)))] := by
  obtain ⟨hw, hl, hq⟩ := hp
  refine ctr_of (ctF := A0.ct) (mtF := A0.mt) (ptF := A0.pt) (ntF := A0.nt) (otF := A0.ot) (F0 := A0.F0) tabOk A0.ct_ok A0.mt_ok A0.pt_ok A0.nt_ok A0.ot_ok mixed 18 _ [3] [.tmp 2] Try.func16 rfl rfl rfl rfl rfl ?_
  intro O r F hO hr hF
  cbv
  repeat' first | refine And.intro ?_ ?_ | (refine caseB_intro (fun hb => ?_) (fun hb => ?_) <;> cbv) | (refine ⟨[3, 6, 7, 8], [], Int × Int, fun s_ => match s_ with | (i, n) => [.reg 8 (.one (.v (.int .i64 i))), .reg 3 (.one (.v (.int .i64 n)))], fun s_ => match s_ with | (i, n) => 0 ≤ i ∧ i ≤ (l.length : Int) ∧ n = wtN l i.toNat, fun s_ => match s_ with | (i, n) => l.length - i.toNat, ⟨(0, 0), ?_, ?_⟩, ?_⟩; rotate_left; (focus (cbv; done)); intro s_ hi; obtain ⟨i, n⟩ := s_; replace hi : 0 ≤ i ∧ i ≤ (l.length : Int) ∧ n = wtN l i.toNat := hi; obtain ⟨i0, i1, i2⟩ := hi; cbv) | (refine loop_step (O.ar .add .i64 i 1, O.ar .add .i64 n (O.gi l i 1)) ?_ ?_ ?_; rotate_left 2; focus (cbv; done))
  all_goals ((try subst hos); subst hO hr hF; (try simp only [stdO, SS, sub_all, ad_zero] at *); (try simp only [ncast] at *); (try simp only [Int.ofNat_eq_natCast] at *))
  all_goals try rw [up64 (by omega) (by omega)]
  all_goals try (have wb := wt_b (l := l) ⟨hw, hl, hq⟩ (n := i.toNat) (by omega); have wi := hq i.toNat (by omega); rw [Int.toNat_of_nonneg i0] at wi; have ea : arI .add .i64 n (giI l i 1) = n + giI l i 1 := add64 (by omega); try rw [ea])
  all_goals first
    | (show (_ : List DV) = _
       first
         | exact di_eq (by rw [i2]; unfold wtS; congr 1; omega)
         | done)
    | omega
    | (rw [wt_up i0]; omega)
    | (refine ⟨by omega, by omega, Eq.trans (Rw.eta (fs := _) (by (first | assumption | exact Rw.sub (by first | assumption | exact Rw.sub (by assumption) (by omega) rfl) (by omega) rfl)) (by omega) (by omega)) ?_⟩; rfl)
    | (show okOrder _ _ = true; kernel_rfl)
    | exact rfl
    | exact ⟨trivial, trivial⟩
    | exact Int.natCast_nonneg _
    | exact True.intro
    | done
theorem c_impl_LargestSample (l : List (List L)) (hp : Rw [tI, tI] l ∧ l.length ≤ 1048576) : Ctr Try.prog 15 [.one (.s 2 l)] [.one (.v (.int .i64 (lgS l)))] := by
  obtain ⟨hw, hl⟩ := hp
  refine ctr_of (ctF := A0.ct) (mtF := A0.mt) (ptF := A0.pt) (ntF := A0.nt) (otF := A0.ot) (F0 := A0.F0) tabOk A0.ct_ok A0.mt_ok A0.pt_ok A0.nt_ok A0.ot_ok mixed 18 _ [3] [.tmp 2] Try.func15 rfl rfl rfl rfl rfl ?_
  intro O r F hO hr hF
  cbv
  repeat' first | refine And.intro ?_ ?_ | (refine caseB_intro (fun hb => ?_) (fun hb => ?_) <;> cbv) | (refine ⟨[3, 6, 7, 8], [], Int × Int, fun s_ => match s_ with | (i, n) => [.reg 8 (.one (.v (.int .i64 i))), .reg 3 (.one (.v (.int .i64 n)))], fun s_ => match s_ with | (i, n) => 0 ≤ i ∧ i ≤ (l.length : Int) ∧ n = lgN l i.toNat, fun s_ => match s_ with | (i, n) => l.length - i.toNat, ⟨(0, 0), ?_, ?_⟩, ?_⟩; rotate_left; (focus (cbv; done)); intro s_ hi; obtain ⟨i, n⟩ := s_; replace hi : 0 ≤ i ∧ i ≤ (l.length : Int) ∧ n = lgN l i.toNat := hi; obtain ⟨i0, i1, i2⟩ := hi; cbv) | (refine loop_step (O.ar .add .i64 i 1, O.mm true n (O.gi l i 0)) ?_ ?_ ?_; rotate_left 2; focus (cbv; done))
  all_goals ((try subst hos); subst hO hr hF; (try simp only [stdO, SS, sub_all, ad_zero] at *); (try simp only [ncast] at *); (try simp only [Int.ofNat_eq_natCast] at *))
  all_goals try rw [up64 (by omega) (by omega)]
  all_goals first
    | (show (_ : List DV) = _
       first
         | exact di_eq (by rw [i2]; unfold lgS; congr 1; omega)
         | done)
    | omega
    | (rw [lg_up i0, ← i2])
    | (refine ⟨by omega, by omega, Eq.trans (Rw.eta (fs := _) (by (first | assumption | exact Rw.sub (by first | assumption | exact Rw.sub (by assumption) (by omega) rfl) (by omega) rfl)) (by omega) (by omega)) ?_⟩; rfl)
    | (show okOrder _ _ = true; kernel_rfl)
    | exact rfl
    | exact ⟨trivial, trivial⟩
    | exact Int.natCast_nonneg _
    | exact True.intro
    | done
namespace A3
structure Fns where
  smp : List (List L) → Int → Int → List (List L)
  wtS : List (List L) → Int
def F0 : Fns := ⟨smp, wtS⟩
def ct (F : Fns) : CT := fun f ds => match f with
  | 45 => match ds with
    | [.one (.s 1 sz), .one (.v (.int .i64 ev))] => some (fun _ => Rw [tI] sz ∧ szOk sz ∧ 1 ≤ ev ∧ ev ≤ 1000, [.one (.v (.bool true))])
    | _ => none
  | 14 => match ds with
    | [.one (.s 1 sz), .one (.v (.int .i64 ev)), .one (.v (.int .i64 st))] => some (fun _ => Rw [tI] sz ∧ szOk sz ∧ 1 ≤ ev ∧ ev ≤ 1000 ∧ 0 ≤ st ∧ st < ev, [.one (.s 2 (F.smp sz ev st))])
    | _ => none
  | 16 => match ds with
    | [.one (.s 2 l)] => some (fun _ => smOk l, [.one (.v (.int .i64 (F.wtS l)))])
    | _ => none
  | _ => none
theorem ct_ok : CTok Try.prog (ct F0) := by
  intro f ds pre res h hp
  unfold ct at h
  split at h
  · split at h
    · cases h; exact c_impl_sampleOk _ _ hp
    · cases h
  · split at h
    · cases h; exact c_impl_SampleOf _ _ _ hp
    · cases h
  · split at h
    · cases h; exact c_impl_SampleCells _ hp
    · cases h
  · cases h
def mt : Fns → MT := noMT
theorem mt_ok : MTok Try.prog (mt F0) := noMT_ok
def pt : Fns → PT := noPT
theorem pt_ok : PTok Try.prog (pt F0) := noPT_ok
def nt : Fns → NT := noNT
theorem nt_ok : NTok Try.prog (nt F0) := noNT_ok
def ot : Fns → OT := noOT
theorem ot_ok : OTok Try.prog (ot F0) := noOT_ok
end A3
theorem c_impl_SumOverStarts (sz : List (List L)) (ev : Int) (hp : Rw [tI] sz ∧ szOk sz ∧ 1 ≤ ev ∧ ev ≤ 1000) : Ctr Try.prog 17 [.one (.s 1 sz), .one (.v (.int .i64 ev))] [.one (.v (.int .i64 (suS sz ev)))] := by
  obtain ⟨hw, hs, h1, h2⟩ := hp
  refine ctr_of (ctF := A3.ct) (mtF := A3.mt) (ptF := A3.pt) (ntF := A3.nt) (otF := A3.ot) (F0 := A3.F0) tabOk A3.ct_ok A3.mt_ok A3.pt_ok A3.nt_ok A3.ot_ok mixed 24 _ [3] [.tmp 4] Try.func17 rfl rfl rfl rfl rfl ?_
  intro O r F hO hr hF
  cbv
  repeat' first | refine And.intro ?_ ?_ | (refine caseB_intro (fun hb => ?_) (fun hb => ?_) <;> cbv) | (refine ⟨[0, 1, 5, 6], [], Int × Int, fun s_ => match s_ with | (s, n) => [.reg 6 (.one (.v (.int .i64 s))), .reg 5 (.one (.v (.int .i64 n)))], fun s_ => match s_ with | (s, n) => 0 ≤ s ∧ s ≤ ev ∧ n = sumU (totN sz sz.length) ev s.toNat, fun s_ => match s_ with | (s, n) => (ev - s).toNat, ⟨(0, 0), ?_, ?_⟩, ?_⟩; rotate_left; (focus (cbv; done)); intro s_ hs; obtain ⟨s, n⟩ := s_; replace hs : 0 ≤ s ∧ s ≤ ev ∧ n = sumU (totN sz sz.length) ev s.toNat := hs; obtain ⟨s0, s1, s2⟩ := hs; cbv) | (refine loop_step (O.ar .add .i64 s 1, O.ar .add .i64 n (F.wtS (O.sub (F.smp sz ev s) 0 (O.ln (F.smp sz ev s))))) ?_ ?_ ?_; rotate_left 2; focus (cbv; done))
  all_goals ((try subst hos); subst hO hr hF; (try simp only [stdO, SS, sub_all, ad_zero] at *); (try simp only [ncast] at *); (try simp only [Int.ofNat_eq_natCast] at *))
  all_goals (try simp only [A3.F0] at *)
  all_goals try rw [up64 (by omega) (by omega)]
  all_goals try (have sb := su_b hs h1 h2 (n := s.toNat) (by omega))
  all_goals try (have so := smp_ok hs h1 h2 (st := s) (by omega) (by omega); have wb := wt_b so (Nat.le_refl _); have wl := so.2.1; have ea : arI .add .i64 n (wtS (smp sz ev s)) = n + wtS (smp sz ev s) := add64 (by unfold wtS; omega); try rw [ea])
  all_goals first
    | (show (_ : List DV) = _
       first
         | exact di_eq (by rw [s2]; unfold suS; congr 1; omega)
         | (exfalso; cases hb; done)
         | done)
    | omega
    | (rw [su_up hs h1 (by omega) (by omega), ← s2]; exact rfl)
    | exact ⟨hw, hs, h1, h2⟩
    | exact ⟨hw, hs, h1, h2, by omega, by omega⟩
    | exact so
    | (refine ⟨by omega, by omega, Eq.trans (Rw.eta (fs := _) (by (first | assumption | exact Rw.sub (by first | assumption | exact Rw.sub (by assumption) (by omega) rfl) (by omega) rfl)) (by omega) (by omega)) ?_⟩; rfl)
    | (show okOrder _ _ = true; kernel_rfl)
    | exact rfl
    | exact ⟨trivial, trivial⟩
    | exact Int.natCast_nonneg _
    | exact True.intro
    | done

end Go.V
