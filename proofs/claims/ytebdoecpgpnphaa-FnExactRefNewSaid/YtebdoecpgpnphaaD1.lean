/-
  Contracts of the functions on the empty reference heap, by evaluation of conditions on their code.
-/
import Derived.Test.YtebdoecpgpnphaaS1
import Derived.Test.YtebdoecpgpnphaaV31
import Derived.Test.YtebdoecpgpnphaaV36
set_option linter.all false

namespace Go.V
open Go Go.Proofs
set_option maxRecDepth 1000000
set_option maxHeartbeats 1000000
structure Fns where
  k1 : Int
def F0 : Fns where
  k1 := 1
abbrev rowO : DV := .one (.s 2 [])
abbrev refh : DV := .agg [.v (.int .i64 1), .s 2 []]

theorem ctr23 : Ctr Try.prog 23 [] [refh] := by
  refine ctr_of_vwpO (ctF := noCT) (F0 := ()) tabOk noCT_ok mixed 2 _ [44] [.cell 0 44] Try.func23 rfl rfl rfl rfl rfl ?_
  intro pr ar sh cmp wr bq bn sel mm ln zi nn ad df cat sub rep gi gb gt gs pi pb pt ps up r F hO hr hF
  cbv
  (obtain ⟨rfl, rfl, rfl, rfl, rfl, rfl, rfl, rfl, rfl, rfl, rfl, rfl, rfl, rfl, rfl, rfl, rfl, rfl, rfl, rfl, rfl, rfl, rfl, rfl, rfl, rfl⟩ := hO; subst hr)
  exact ⟨⟨rfl, rfl⟩, rfl, trivial⟩
theorem ctr24 : Ctr Try.prog 24 [] [refh] := by
  refine ctr_of_vwpO (ctF := noCT) (F0 := ()) tabOk noCT_ok mixed 2 _ [44] [.cell 0 44] Try.func24 rfl rfl rfl rfl rfl ?_
  intro pr ar sh cmp wr bq bn sel mm ln zi nn ad df cat sub rep gi gb gt gs pi pb pt ps up r F hO hr hF
  cbv
  (obtain ⟨rfl, rfl, rfl, rfl, rfl, rfl, rfl, rfl, rfl, rfl, rfl, rfl, rfl, rfl, rfl, rfl, rfl, rfl, rfl, rfl, rfl, rfl, rfl, rfl, rfl, rfl⟩ := hO; subst hr)
  exact ⟨⟨rfl, rfl⟩, rfl, trivial⟩
theorem ctr36 : Ctr Try.prog 36 [rowO, rowO] [db true] := by
  refine ctr_of_vwpO (ctF := noCT) (F0 := ()) tabOk noCT_ok mixed 27 _ [4] [.tmp 4] Try.func36 rfl rfl rfl rfl rfl ?_
  intro pr ar sh cmp wr bq bn sel mm ln zi nn ad df cat sub rep gi gb gt gs pi pb pt ps up r F hO hr hF
  cbv
  refine caseB_intro (fun hb => ?_) (fun hb => ?_) <;> cbv
  · (obtain ⟨rfl, rfl, rfl, rfl, rfl, rfl, rfl, rfl, rfl, rfl, rfl, rfl, rfl, rfl, rfl, rfl, rfl, rfl, rfl, rfl, rfl, rfl, rfl, rfl, rfl, rfl⟩ := hO; subst hr)
    simp only [c_eql_t, c_eql_f, c_neq_t, c_neq_f, c_lss_t, c_lss_f, c_leq_t, c_leq_f, c_gtr_t, c_gtr_f, c_geq_t, c_geq_f, sub_ln, sub_all, bn_t, bn_f, sel_t, sel_f, bq_eql_t, bq_eql_f, bq_neq_t, bq_neq_f, zi_eq, ln_eq, pr_eq, ad_zero] at hb; exact absurd rfl hb
  · clear hb
    refine ⟨[0, 1, 5], [], Int, fun i => [.reg 5 (.one (.v (.int .i64 i)))], fun i => i = 0, fun i => 0, ⟨0, rfl, ?_⟩, ?_⟩
    · cbv
    · rintro i hi
      replace hi : i = 0 := hi
      subst hi
      cbv
      refine caseB_intro (fun hb => ?_) (fun hb => ?_)
      · (obtain ⟨rfl, rfl, rfl, rfl, rfl, rfl, rfl, rfl, rfl, rfl, rfl, rfl, rfl, rfl, rfl, rfl, rfl, rfl, rfl, rfl, rfl, rfl, rfl, rfl, rfl, rfl⟩ := hO; subst hr)
        simp only [c_eql_t, c_eql_f, c_neq_t, c_neq_f, c_lss_t, c_lss_f, c_leq_t, c_leq_f, c_gtr_t, c_gtr_f, c_geq_t, c_geq_f, sub_ln, sub_all, bn_t, bn_f, sel_t, sel_f, bq_eql_t, bq_eql_f, bq_neq_t, bq_neq_f, zi_eq, ln_eq, pr_eq, ad_zero] at hb; exact absurd hb (by decide)
      · cbv
        repeat' first | refine And.intro ?_ ?_ | (refine caseB_intro (fun hb => ?_) (fun hb => ?_) <;> cbv)
        all_goals (obtain ⟨rfl, rfl, rfl, rfl, rfl, rfl, rfl, rfl, rfl, rfl, rfl, rfl, rfl, rfl, rfl, rfl, rfl, rfl, rfl, rfl, rfl, rfl, rfl, rfl, rfl, rfl⟩ := hO; subst hr)
        all_goals trivial
theorem ctr38 (k : Int) : Ctr Try.prog 38 [rowO, di k] [di k] := by
  refine ctr_of_vwpO (ctF := noCT) (F0 := ()) tabOk noCT_ok mixed 31 _ [3] [.tmp 4] Try.func38 rfl rfl rfl rfl rfl ?_
  intro pr ar sh cmp wr bq bn sel mm ln zi nn ad df cat sub rep gi gb gt gs pi pb pt ps up r F hO hr hF
  cbv
  refine ⟨[0, 1, 5], [], Int, fun i => [.reg 5 (.one (.v (.int .i64 i))), .reg 1 (.one (.v (.int .i64 k)))], fun i => i = 0, fun i => 0, ⟨0, rfl, ?_⟩, ?_⟩
  · cbv
  · rintro i hi
    replace hi : i = 0 := hi
    subst hi
    cbv
    refine caseB_intro (fun hb => ?_) (fun hb => ?_)
    · (obtain ⟨rfl, rfl, rfl, rfl, rfl, rfl, rfl, rfl, rfl, rfl, rfl, rfl, rfl, rfl, rfl, rfl, rfl, rfl, rfl, rfl, rfl, rfl, rfl, rfl, rfl, rfl⟩ := hO; subst hr)
      simp only [c_eql_t, c_eql_f, c_neq_t, c_neq_f, c_lss_t, c_lss_f, c_leq_t, c_leq_f, c_gtr_t, c_gtr_f, c_geq_t, c_geq_f, sub_ln, sub_all, bn_t, bn_f, sel_t, sel_f, bq_eql_t, bq_eql_f, bq_neq_t, bq_neq_f, zi_eq, ln_eq, pr_eq, ad_zero] at hb; exact absurd hb (by decide)
    · cbv
      repeat' first | refine And.intro ?_ ?_ | (refine caseB_intro (fun hb => ?_) (fun hb => ?_) <;> cbv)
      all_goals (obtain ⟨rfl, rfl, rfl, rfl, rfl, rfl, rfl, rfl, rfl, rfl, rfl, rfl, rfl, rfl, rfl, rfl, rfl, rfl, rfl, rfl, rfl, rfl, rfl, rfl, rfl, rfl⟩ := hO; subst hr)
      all_goals trivial
theorem mctr37 (k : Int) : MCtr Try.prog 37 [rowO, di k] [.s 2 []] [di k] := by
  refine mctr_of_vwpM (ctF := noCT) (mtF := noMT) (F0 := ()) tabOk noCT_ok noMT_ok mixed 27 _ [3] [.tmp 4] [(0, 0)] Try.func37 rfl rfl rfl rfl rfl rfl rfl ?_
  intro pr ar sh cmp wr bq bn sel mm ln zi nn ad df cat sub rep gi gb gt gs pi pb pt ps up r os F hO hr hos hF
  cbv
  refine ⟨[0, 1, 5], [0], Int, fun i => [.reg 5 (.one (.v (.int .i64 i))), .reg 1 (.one (.v (.int .i64 k)))], fun i => i = 0, fun i => 0, ⟨0, rfl, ?_⟩, ?_⟩
  · cbv
  · rintro i hi
    replace hi : i = 0 := hi
    subst hi
    cbv
    refine caseB_intro (fun hb => ?_) (fun hb => ?_)
    · (obtain ⟨rfl, rfl, rfl, rfl, rfl, rfl, rfl, rfl, rfl, rfl, rfl, rfl, rfl, rfl, rfl, rfl, rfl, rfl, rfl, rfl, rfl, rfl, rfl, rfl, rfl, rfl⟩ := hO; subst hr)
      simp only [c_eql_t, c_eql_f, c_neq_t, c_neq_f, c_lss_t, c_lss_f, c_leq_t, c_leq_f, c_gtr_t, c_gtr_f, c_geq_t, c_geq_f, sub_ln, sub_all, bn_t, bn_f, sel_t, sel_f, bq_eql_t, bq_eql_f, bq_neq_t, bq_neq_f, zi_eq, ln_eq, pr_eq, ad_zero] at hb; exact absurd hb (by decide)
    · cbv
      repeat' first | refine And.intro ?_ ?_ | (refine caseB_intro (fun hb => ?_) (fun hb => ?_) <;> cbv)
      all_goals (obtain ⟨rfl, rfl, rfl, rfl, rfl, rfl, rfl, rfl, rfl, rfl, rfl, rfl, rfl, rfl, rfl, rfl, rfl, rfl, rfl, rfl, rfl, rfl, rfl, rfl, rfl, rfl⟩ := hO; subst hr hos)
      all_goals first | trivial | exact rfl
def ct1 (_ : Fns) : CT := fun f ds => match f, ds with
  | 36, [.one (.s 2 []), .one (.s 2 [])] => some (fun _ => True, [db true])
  | 38, [.one (.s 2 []), .one (.v (.int .i64 k))] => some (fun _ => True, [di k])
  | _, _ => none
theorem ct1_ok : CTok Try.prog (ct1 F0) := by
  intro f ds pre res h hp
  unfold ct1 at h
  split at h
  · cases h; exact ctr36
  · cases h; exact ctr38 _
  · cases h
def mt1 (_ : Fns) : MT := fun f => match f with
  | 37 => some fun ds => match ds with
    | [.one (.s 2 []), .one (.v (.int .i64 k))] => some (fun _ => True, [.s 2 []], [di k])
    | _ => none
  | _ => none
theorem mt1_ok : MTok Try.prog (mt1 F0) := by
  intro f mk h ds pre outs res hm hp
  unfold mt1 at h
  split at h
  · cases h
    dsimp only at hm
    split at hm
    · cases hm; exact mctr37 _
    · cases hm
  · cases h
theorem ctr25 : Ctr Try.prog 25 [refh, refh] [db true] := by
  refine ctr_of_vwpO tabOk ct1_ok mixed 16 _ [4] [.tmp 4] Try.func25 rfl rfl rfl rfl rfl ?_
  intro pr ar sh cmp wr bq bn sel mm ln zi nn ad df cat sub rep gi gb gt gs pi pb pt ps up r F hO hr hF
  obtain ⟨k1⟩ := F
  cbv
  repeat' first | refine And.intro ?_ ?_ | (refine caseB_intro (fun hb => ?_) (fun hb => ?_) <;> cbv)
  all_goals (obtain ⟨rfl, rfl, rfl, rfl, rfl, rfl, rfl, rfl, rfl, rfl, rfl, rfl, rfl, rfl, rfl, rfl, rfl, rfl, rfl, rfl, rfl, rfl, rfl, rfl, rfl, rfl⟩ := hO; subst hr; obtain rfl : k1 = F0.k1 := congrArg Fns.k1 hF; clear hF)
  all_goals simp only [c_eql_t, c_eql_f, c_neq_t, c_neq_f, c_lss_t, c_lss_f, c_leq_t, c_leq_f, c_gtr_t, c_gtr_f, c_geq_t, c_geq_f, sub_ln, sub_all, bn_t, bn_f, sel_t, sel_f, bq_eql_t, bq_eql_f, bq_neq_t, bq_neq_f, zi_eq, ln_eq, pr_eq, ad_zero] at *
  all_goals first | trivial | exact absurd rfl hb
theorem ctr27 (k : Int) (hk : 0 ≤ k) : Ctr Try.prog 27 [refh, di k] [di k] := by
  refine ctr_of_vwpO tabOk ct1_ok mixed 12 _ [3] [.tmp 4] Try.func27 rfl rfl rfl rfl rfl ?_
  intro pr ar sh cmp wr bq bn sel mm ln zi nn ad df cat sub rep gi gb gt gs pi pb pt ps up r F hO hr hF
  obtain ⟨k1⟩ := F
  cbv
  repeat' first | refine And.intro ?_ ?_ | (refine caseB_intro (fun hb => ?_) (fun hb => ?_) <;> cbv)
  all_goals (obtain ⟨rfl, rfl, rfl, rfl, rfl, rfl, rfl, rfl, rfl, rfl, rfl, rfl, rfl, rfl, rfl, rfl, rfl, rfl, rfl, rfl, rfl, rfl, rfl, rfl, rfl, rfl⟩ := hO; subst hr; obtain rfl : k1 = F0.k1 := congrArg Fns.k1 hF; clear hF)
  all_goals simp only [c_eql_t, c_eql_f, c_neq_t, c_neq_f, c_lss_t, c_lss_f, c_leq_t, c_leq_f, c_gtr_t, c_gtr_f, c_geq_t, c_geq_f, sub_ln, sub_all, bn_t, bn_f, sel_t, sel_f, bq_eql_t, bq_eql_f, bq_neq_t, bq_neq_f, zi_eq, ln_eq, pr_eq, ad_zero] at *
  all_goals first | trivial | omega
theorem mctr26 (k : Int) : MCtr Try.prog 26 [refh, di k] [.s 2 []] [di k] := by
  refine mctr_of_vwpM (ctF := noC) (mtF := mt1) (F0 := F0) tabOk noC_ok mt1_ok mixed 10 _ [3] [.tmp 4] [(2, 1)] Try.func26 rfl rfl rfl rfl rfl rfl rfl ?_
  intro pr ar sh cmp wr bq bn sel mm ln zi nn ad df cat sub rep gi gb gt gs pi pb pt ps up r os F hO hr hos hF
  obtain ⟨k1⟩ := F
  cbv
  repeat' first | refine And.intro ?_ ?_ | (refine caseB_intro (fun hb => ?_) (fun hb => ?_) <;> cbv)
  all_goals (subst hos; (obtain ⟨rfl, rfl, rfl, rfl, rfl, rfl, rfl, rfl, rfl, rfl, rfl, rfl, rfl, rfl, rfl, rfl, rfl, rfl, rfl, rfl, rfl, rfl, rfl, rfl, rfl, rfl⟩ := hO; subst hr; obtain rfl : k1 = F0.k1 := congrArg Fns.k1 hF; clear hF))
  all_goals first | trivial | exact rfl

def ct2 (_ : Fns) : CT := fun f ds => match f, ds with
  | 23, [] => some (fun _ => True, [refh])
  | 24, [] => some (fun _ => True, [refh])
  | 25, [.agg [.v (.int .i64 1), .s 2 es], .agg [.v (.int .i64 1), .s 2 fs]] => some (fun _ => es = [] ∧ fs = [], [db true])
  | 27, [.agg [.v (.int .i64 1), .s 2 es], .one (.v (.int .i64 k))] => some (fun _ => es = [] ∧ 0 ≤ k, [di k])
  | _, _ => none
theorem ct2_ok : CTok Try.prog (ct2 F0) := by
  intro f ds pre res h hp
  unfold ct2 at h
  split at h
  · cases h; exact ctr23
  · cases h; exact ctr24
  · cases h; obtain ⟨rfl, rfl⟩ := hp; exact ctr25
  · cases h; obtain ⟨rfl, hp⟩ := hp; exact ctr27 _ hp
  · cases h
def mt2 (_ : Fns) : MT := fun f => match f with
  | 26 => some fun ds => match ds with
    | [.agg [.v (.int .i64 1), .s 2 []], .one (.v (.int .i64 k))] => some (fun _ => True, [.s 2 []], [di k])
    | _ => none
  | _ => none
theorem mt2_ok : MTok Try.prog (mt2 F0) := by
  intro f mk h ds pre outs res hm hp
  unfold mt2 at h
  split at h
  · cases h
    dsimp only at hm
    split at hm
    · cases hm; exact mctr26 _
    · cases hm
  · cases h
theorem ctr7 : Ctr Try.prog 7 [] [db true] := by
  refine ctr_of_vwpM tabOk ct2_ok mt2_ok mixed 36 _ [4] [.tmp 0] Try.func7 rfl rfl rfl rfl rfl ?_
  intro pr ar sh cmp wr bq bn sel mm ln zi nn ad df cat sub rep gi gb gt gs pi pb pt ps up r F hO hr hF
  obtain ⟨k1⟩ := F
  cbv
  repeat' first | refine And.intro ?_ ?_ | (refine caseB_intro (fun hb => ?_) (fun hb => ?_) <;> cbv)
  all_goals (obtain ⟨rfl, rfl, rfl, rfl, rfl, rfl, rfl, rfl, rfl, rfl, rfl, rfl, rfl, rfl, rfl, rfl, rfl, rfl, rfl, rfl, rfl, rfl, rfl, rfl, rfl, rfl⟩ := hO; subst hr; obtain rfl : k1 = F0.k1 := congrArg Fns.k1 hF; clear hF)
  all_goals simp only [c_eql_t, c_eql_f, c_neq_t, c_neq_f, c_lss_t, c_lss_f, c_leq_t, c_leq_f, c_gtr_t, c_gtr_f, c_geq_t, c_geq_f, sub_ln, sub_all, bn_t, bn_f, sel_t, sel_f, bq_eql_t, bq_eql_f, bq_neq_t, bq_neq_f, zi_eq, ln_eq, pr_eq, ad_zero] at *
  all_goals first | trivial | exact rfl | omega | trace_state
theorem ctr7' (recs : List Rec) (h : confs [] recs) : Ctr Try.prog 7 (argDVs [] recs) [db true] := by
  match recs, h with
  | [], _ => exact ctr7
end Go.V
