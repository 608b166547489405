/-
  Contracts of the functions that write marks into samples, and of the law, by evaluation of conditions on their code.
-/
import Derived.Test.YtlpkkliogonmnaaE1
set_option linter.all false

namespace Go.V
open Go Go.Proofs
set_option maxRecDepth 1000000
set_option maxHeartbeats 1000000
theorem mctr21 (es : List Rec) (k : Int) (hw : Wf zI es) (hlen : es.length ≤ 1048576) (hk : 0 ≤ k ∧ k ≤ 1048576) : MCtr Try.prog 21 [row1 es, di k] [.s 1 (F0.mkI es k)] [di (F0.nI es k)] := by
  refine mctr_of_vwpM (ctF := noC) (mtF := noMT) (F0 := F0) tabOk noC_ok noMT_ok mixed 19 _ [3] [.tmp 4] [(0, 0)] Try.func21 rfl rfl rfl rfl rfl rfl rfl ?_
  intro pr ar sh cmp wr bq bn sel mm ln zi nn ad df cat sub rep gi gb gt gs pi pb pt ps up r os F hO hr hos hF
  obtain ⟨inR, sok, sof, mkI, mkS, nI, nS⟩ := F
  cbv
  refine ⟨[0, 1, 5], [0], Int × Int × List Rec, fun s => match s with | (i, k', cur) => [.reg 5 (.one (.v (.int .i64 i))), .reg 1 (.one (.v (.int .i64 k'))), .leaf 0 0 ⟨0, 0, some 0, .own (.s 1 cur)⟩], fun s => 0 ≤ s.1 ∧ s.1.toNat ≤ es.length ∧ s.2.1 = k + s.1 ∧ s.2.2 = markF 1 es k s.1.toNat, fun s => es.length - s.1.toNat, ⟨(0, k, es), ?_, ?_⟩, ?_⟩
  · exact ⟨by omega, Nat.zero_le _, by simp, by simp [markF_zero]⟩
  · cbv
  · rintro ⟨i, k', cur⟩ hi
    replace hi : 0 ≤ i ∧ i.toNat ≤ es.length ∧ k' = k + i ∧ cur = markF 1 es k i.toNat := hi
    obtain ⟨h0, h1, hk', hc⟩ := hi
    cbv
    repeat' first | refine And.intro ?_ ?_ | (refine caseB_intro (fun hb => ?_) (fun hb => ?_) <;> cbv) | (refine loop_step (ar .add .i64 i 1, ar .add .i64 k' 1, up (.s 1 cur) [(ad 0 i, 0)] [.v (.int .i64 k')]) ?_ ?_ ?_; rotate_left 2; focus (cbv; done))
    all_goals (subst hos; (obtain ⟨rfl, rfl, rfl, rfl, rfl, rfl, rfl, rfl, rfl, rfl, rfl, rfl, rfl, rfl, rfl, rfl, rfl, rfl, rfl, rfl, rfl, rfl, rfl, rfl, rfl, rfl⟩ := hO; subst hr; obtain rfl : inR = F0.inR := congrArg Fns.inR hF; obtain rfl : sok = F0.sok := congrArg Fns.sok hF; obtain rfl : sof = F0.sof := congrArg Fns.sof hF; obtain rfl : mkI = F0.mkI := congrArg Fns.mkI hF; obtain rfl : mkS = F0.mkS := congrArg Fns.mkS hF; obtain rfl : nI = F0.nI := congrArg Fns.nI hF; obtain rfl : nS = F0.nS := congrArg Fns.nS hF; clear hF))
    all_goals simp only [c_eql_t, c_eql_f, c_neq_t, c_neq_f, c_lss_t, c_lss_f, c_leq_t, c_leq_f, c_gtr_t, c_gtr_f, c_geq_t, c_geq_f, sub_ln, sub_all, bn_t, bn_f, sel_t, sel_f, bq_eql_t, bq_eql_f, bq_neq_t, bq_neq_f, zi_eq, ln_eq, pr_eq, ad_zero, F0] at *
    all_goals try rw [inc64 (n := es.length) h0 (by assumption) (by omega)]
    all_goals try rw [show arI .add .i64 k' 1 = k' + 1 from add64 (by omega)]
    · exact ⟨h0, hb⟩
    · rw [hc]; exact getR_some (by rw [markF_length h1]; omega) (by rw [markF_getD, fitZ_length (hw.at (by omega))]; exact Nat.le_refl _)
    · omega
    · omega
    · omega
    · rw [hc, show (i + 1).toNat = i.toNat + 1 from by omega]
      exact mark1 hw rfl (by omega) (by omega)
    · omega
    · rw [show k' = k + es.length from by omega]
    · rw [hc, show i.toNat = es.length from by omega]; rfl
theorem mctr22 (es : List Rec) (k : Int) (hw : Wf zS es) (hlen : es.length ≤ 1048576) (hk : 0 ≤ k ∧ k ≤ 1048576) : MCtr Try.prog 22 [row es, di k] [.s 2 (F0.mkS es k)] [di (F0.nS es k)] := by
  refine mctr_of_vwpM (ctF := noC) (mtF := noMT) (F0 := F0) tabOk noC_ok noMT_ok mixed 27 _ [3] [.tmp 4] [(0, 0)] Try.func22 rfl rfl rfl rfl rfl rfl rfl ?_
  intro pr ar sh cmp wr bq bn sel mm ln zi nn ad df cat sub rep gi gb gt gs pi pb pt ps up r os F hO hr hos hF
  obtain ⟨inR, sok, sof, mkI, mkS, nI, nS⟩ := F
  cbv
  refine ⟨[0, 1, 5], [0], Int × Int × List Rec, fun s => match s with | (i, k', cur) => [.reg 5 (.one (.v (.int .i64 i))), .reg 1 (.one (.v (.int .i64 k'))), .leaf 0 0 ⟨0, 0, some 0, .own (.s 2 cur)⟩], fun s => 0 ≤ s.1 ∧ s.1.toNat ≤ es.length ∧ s.2.1 = k + 2 * s.1 ∧ s.2.2 = markF 2 es k s.1.toNat, fun s => es.length - s.1.toNat, ⟨(0, k, es), ?_, ?_⟩, ?_⟩
  · exact ⟨by omega, Nat.zero_le _, by simp, by simp [markF_zero]⟩
  · cbv
  · rintro ⟨i, k', cur⟩ hi
    replace hi : 0 ≤ i ∧ i.toNat ≤ es.length ∧ k' = k + 2 * i ∧ cur = markF 2 es k i.toNat := hi
    obtain ⟨h0, h1, hk', hc⟩ := hi
    cbv
    repeat' first | refine And.intro ?_ ?_ | (refine caseB_intro (fun hb => ?_) (fun hb => ?_) <;> cbv) | (refine loop_step (ar .add .i64 i 1, ar .add .i64 (ar .add .i64 k' 1) 1, up (.s 2 (up (.s 2 cur) [(ad 0 i, 0)] [.v (.int .i64 k')])) [(ad 0 i, 1)] [.v (.int .i64 (ar .add .i64 k' 1))]) ?_ ?_ ?_; rotate_left 2; focus (cbv; done))
    all_goals (subst hos; (obtain ⟨rfl, rfl, rfl, rfl, rfl, rfl, rfl, rfl, rfl, rfl, rfl, rfl, rfl, rfl, rfl, rfl, rfl, rfl, rfl, rfl, rfl, rfl, rfl, rfl, rfl, rfl⟩ := hO; subst hr; obtain rfl : inR = F0.inR := congrArg Fns.inR hF; obtain rfl : sok = F0.sok := congrArg Fns.sok hF; obtain rfl : sof = F0.sof := congrArg Fns.sof hF; obtain rfl : mkI = F0.mkI := congrArg Fns.mkI hF; obtain rfl : mkS = F0.mkS := congrArg Fns.mkS hF; obtain rfl : nI = F0.nI := congrArg Fns.nI hF; obtain rfl : nS = F0.nS := congrArg Fns.nS hF; clear hF))
    all_goals simp only [c_eql_t, c_eql_f, c_neq_t, c_neq_f, c_lss_t, c_lss_f, c_leq_t, c_leq_f, c_gtr_t, c_gtr_f, c_geq_t, c_geq_f, sub_ln, sub_all, bn_t, bn_f, sel_t, sel_f, bq_eql_t, bq_eql_f, bq_neq_t, bq_neq_f, zi_eq, ln_eq, pr_eq, ad_zero, F0] at *
    all_goals try rw [inc64 (n := es.length) h0 (by assumption) (by omega)]
    all_goals try rw [show arI .add .i64 k' 1 = k' + 1 from add64 (by omega)]
    all_goals try rw [show arI .add .i64 (k' + 1) 1 = k' + 1 + 1 from add64 (by omega)]
    · exact ⟨h0, hb⟩
    · rw [hc]; exact getR_some (by rw [markF_length h1]; omega) (by rw [markF_getD, fitZ_length (hw.at (by omega))]; exact (show (1 : Nat) ≤ 2 by decide))
    · exact ⟨h0, hb⟩
    · refine getR_some (by rw [hc, upI_at, List.length_set, markF_length h1]; omega) ?_
      rw [hc]
      exact mark2_room hw rfl (by omega)
    · omega
    · omega
    · omega
    · rw [hc, show (i + 1).toNat = i.toNat + 1 from by omega]
      exact mark2 hw rfl (by omega) (by omega) (by omega)
    · omega
    · rw [show k' = k + 2 * es.length from by omega]
    · rw [hc, show i.toNat = es.length from by omega]; rfl
theorem ctr23 (es : List Rec) (k : Int) (hw : Wf zS es) (hlen : es.length ≤ 1048576) (hk : 0 ≤ k ∧ k ≤ 1048576) : Ctr Try.prog 23 [row (F0.mkS es k), di k] [di (k + 2 * es.length)] := by
  have hwm : Wf zS (F0.mkS es k) := markF_wf (f := 2) hw
  have hlm : (F0.mkS es k).length = es.length := markF_length (Nat.le_refl _)
  have hg : ∀ i : Int, 0 ≤ i → i < es.length → giI (F0.mkS es k) i 0 = k + 2 * i := fun i h0 h1 => (markF_gi (f := 2) (t := 0) (es := es) (k := k) h0 h1 (by omega)).trans (by simp)
  have hg1 : ∀ i : Int, 0 ≤ i → i < es.length → giI (F0.mkS es k) i 1 = k + 2 * i + 1 := fun i h0 h1 => (markF_gi (f := 2) (t := 1) (es := es) (k := k) h0 h1 (by omega)).trans (by simp)
  generalize F0.mkS es k = ms at *
  have hlt : ∀ {i : Int}, i < ms.length → i < es.length := fun h => by rw [← hlm]; exact h
  refine ctr_of_vwpO (ctF := noC) (F0 := F0) tabOk noC_ok mixed 31 _ [3] [.tmp 4] Try.func23 rfl rfl rfl rfl rfl ?_
  intro pr ar sh cmp wr bq bn sel mm ln zi nn ad df cat sub rep gi gb gt gs pi pb pt ps up r F hO hr hF
  obtain ⟨inR, sok, sof, mkI, mkS, nI, nS⟩ := F
  cbv
  refine ⟨[0, 1, 5], [], Int × Int, fun s => match s with | (i, k') => [.reg 5 (.one (.v (.int .i64 i))), .reg 1 (.one (.v (.int .i64 k')))], fun s => 0 ≤ s.1 ∧ s.1.toNat ≤ es.length ∧ s.2 = k + 2 * s.1, fun s => es.length - s.1.toNat, ⟨(0, k), ?_, ?_⟩, ?_⟩
  · exact ⟨by omega, Nat.zero_le _, by simp⟩
  · cbv
  · rintro ⟨i, k'⟩ hi
    replace hi : 0 ≤ i ∧ i.toNat ≤ es.length ∧ k' = k + 2 * i := hi
    obtain ⟨h0, h1, hk'⟩ := hi
    cbv
    repeat' first | refine And.intro ?_ ?_ | (refine caseB_intro (fun hb => ?_) (fun hb => ?_) <;> cbv) | (refine loop_step (ar .add .i64 i 1, ar .add .i64 (ar .add .i64 k' 1) 1) ?_ ?_ ?_; rotate_left 2; focus (cbv; done))
    all_goals (obtain ⟨rfl, rfl, rfl, rfl, rfl, rfl, rfl, rfl, rfl, rfl, rfl, rfl, rfl, rfl, rfl, rfl, rfl, rfl, rfl, rfl, rfl, rfl, rfl, rfl, rfl, rfl⟩ := hO; subst hr; obtain rfl : inR = F0.inR := congrArg Fns.inR hF; obtain rfl : sok = F0.sok := congrArg Fns.sok hF; obtain rfl : sof = F0.sof := congrArg Fns.sof hF; obtain rfl : mkI = F0.mkI := congrArg Fns.mkI hF; obtain rfl : mkS = F0.mkS := congrArg Fns.mkS hF; obtain rfl : nI = F0.nI := congrArg Fns.nI hF; obtain rfl : nS = F0.nS := congrArg Fns.nS hF; clear hF)
    all_goals simp only [c_eql_t, c_eql_f, c_neq_t, c_neq_f, c_lss_t, c_lss_f, c_leq_t, c_leq_f, c_gtr_t, c_gtr_f, c_geq_t, c_geq_f, sub_ln, sub_all, bn_t, bn_f, sel_t, sel_f, bq_eql_t, bq_eql_f, bq_neq_t, bq_neq_f, zi_eq, ln_eq, pr_eq, ad_zero, F0] at *
    all_goals try rw [inc64 (n := es.length) h0 (by omega) (by omega)]
    all_goals try rw [show arI .add .i64 k' 1 = k' + 1 from add64 (by omega)] at *
    all_goals try rw [show arI .add .i64 (k' + 1) 1 = k' + 1 + 1 from add64 (by omega)]
    · exact row_ro hwm h0 (by omega)
    · exact absurd ((hg i h0 (hlt (by assumption))).trans hk'.symm) hb
    · exact row_ro hwm h0 (by omega)
    · exact absurd ((hg1 i h0 (hlt (by assumption))).trans (by rw [hk'])) hb
    · omega
    · omega
    · omega
    · omega
    · rw [show k' = k + 2 * es.length from by omega]

def ct4 (F : Fns) : CT := fun f ds => match f, ds with
  | 17, [.one (.s 1 es)] => some (fun _ => Wf zI es ∧ es.length ≤ 1048576, [row1 es])
  | 20, [.one (.s 1 es), d] => some (fun _ => d = row1 es ∧ Wf zI es ∧ es.length ≤ 1048576, [db true])
  | 19, [.one (.s 2 es), d] => some (fun _ => d = row es ∧ Wf zS es ∧ es.length ≤ 1048576, [db true])
  | 16, [.one (.s 1 es), .one (.v (.int .i64 e)), .one (.v (.int .i64 s))] => some (fun _ => Wf zI es ∧ es.length ≤ 1048576, [row (F.sof es e s)])
  | 18, [.one (.s 1 es), .one (.v (.int .i64 e)), .one (.v (.int .i64 s))] => some (fun _ => Wf zI es ∧ es.length ≤ 1048576, [row (F.sof es e s)])
  | 23, [.one (.s 2 ms), .one (.v (.int .i64 k))] => some (fun _ => ∃ es, ms = F0.mkS es k ∧ Wf zS es ∧ es.length ≤ 1048576 ∧ 0 ≤ k ∧ k ≤ 1048576, [di (F.nS ms k)])
  | _, _ => none
theorem ct4_ok : CTok Try.prog (ct4 F0) := by
  intro f ds pre res h hp
  unfold ct4 at h
  split at h
  · cases h; exact ctr17 _ hp.1 hp.2
  · cases h; obtain ⟨rfl, h1, h2⟩ := hp; exact ctr20 _ h1 h2
  · cases h; obtain ⟨rfl, h1, h2⟩ := hp; exact ctr19 _ h1 h2
  · cases h; exact ctr16 _ _ _ hp.1 hp.2
  · cases h; exact ctr18 _ _ _ hp.1 hp.2
  · cases h
    obtain ⟨es, rfl, h1, h2, h3⟩ := hp
    have := ctr23 es _ h1 h2 h3
    rw [show F0.nS (F0.mkS es _) _ = _ from congrArg (fun n : Nat => _ + 2 * (n : Int)) (markF_length (Nat.le_refl _))]
    exact this
  · cases h
def mt4 (F : Fns) : MT := fun f => match f with
  | 21 => some fun ds => match ds with
    | [.one (.s 1 es), .one (.v (.int .i64 k))] => some (fun _ => Wf zI es ∧ es.length ≤ 1048576 ∧ 0 ≤ k ∧ k ≤ 1048576, [.s 1 (F.mkI es k)], [di (F.nI es k)])
    | _ => none
  | 22 => some fun ds => match ds with
    | [.one (.s 2 es), .one (.v (.int .i64 k))] => some (fun _ => Wf zS es ∧ es.length ≤ 1048576 ∧ 0 ≤ k ∧ k ≤ 1048576, [.s 2 (F.mkS es k)], [di (F.nS es k)])
    | _ => none
  | _ => none
theorem mt4_ok : MTok Try.prog (mt4 F0) := by
  intro f mk h ds pre outs res hm hp
  unfold mt4 at h
  split at h
  · cases h
    dsimp only at hm
    split at hm
    · cases hm; exact mctr21 _ _ hp.1 hp.2.1 hp.2.2
    · cases hm
  · cases h
    dsimp only at hm
    split at hm
    · cases hm; exact mctr22 _ _ hp.1 hp.2.1 hp.2.2
    · cases hm
  · cases h
theorem ctr4 (es : List Rec) (every start : Int) (hw : Wf zI es) : Ctr Try.prog 4 [row1 es, di every, di start] [db true] := by
  have hsof : Wf zS (F0.sof es every start) ∧ (F0.sof es every start).length ≤ 1048576 := ⟨(sampleOf0_ok es every start).1, Nat.le_trans (sampleOf0_ok es every start).2 (by omega)⟩
  have hnI : ¬ F0.nI es 1 < 0 := by show ¬ (1 + (es.length : Int) < 0); omega
  have hnE : ¬ F0.nS (F0.mkS (F0.sof es every start) 1) 1 ≠ F0.nS (F0.sof es every start) 1 := fun h => h (congrArg (fun n : Nat => (1 : Int) + 2 * (n : Int)) (markF_length (Nat.le_refl _)))
  have hnS : ¬ F0.nS (F0.mkS (F0.sof es every start) 1) 1 < 0 := by show ¬ (1 + 2 * ((F0.mkS (F0.sof es every start) 1).length : Int) < 0); omega
  have hlS : (F0.mkS (F0.sof es every start) 1).length = (F0.sof es every start).length := markF_length (Nat.le_refl _)
  have hlI : (F0.mkI es 1).length = es.length := markF_length (Nat.le_refl _)
  have hsub : subI (F0.mkS (F0.sof es every start) 1) 0 (F0.sof es every start).length = F0.mkS (F0.sof es every start) 1 := by rw [← hlS, sub_all]
  refine ctr_of_vwpM tabOk ct4_ok mt4_ok mixed 76 _ [4] [.tmp 6] Try.func4 rfl rfl rfl rfl rfl ?_
  intro pr ar sh cmp wr bq bn sel mm ln zi nn ad df cat sub rep gi gb gt gs pi pb pt ps up r F hO hr hF
  obtain ⟨inR, sok, sof, mkI, mkS, nI, nS⟩ := F
  cbv
  repeat' first | refine And.intro ?_ ?_ | (refine caseB_intro (fun hb => ?_) (fun hb => ?_) <;> cbv)
  all_goals (obtain ⟨rfl, rfl, rfl, rfl, rfl, rfl, rfl, rfl, rfl, rfl, rfl, rfl, rfl, rfl, rfl, rfl, rfl, rfl, rfl, rfl, rfl, rfl, rfl, rfl, rfl, rfl⟩ := hO; subst hr; obtain rfl : inR = F0.inR := congrArg Fns.inR hF; obtain rfl : sok = F0.sok := congrArg Fns.sok hF; obtain rfl : sof = F0.sof := congrArg Fns.sof hF; obtain rfl : mkI = F0.mkI := congrArg Fns.mkI hF; obtain rfl : mkS = F0.mkS := congrArg Fns.mkS hF; obtain rfl : nI = F0.nI := congrArg Fns.nI hF; obtain rfl : nS = F0.nS := congrArg Fns.nS hF; clear hF)
  all_goals simp only [c_eql_t, c_eql_f, c_neq_t, c_neq_f, c_lss_t, c_lss_f, c_leq_t, c_leq_f, c_gtr_t, c_gtr_f, c_geq_t, c_geq_f, sub_ln, sub_all, bn_t, bn_f, sel_t, sel_f, bq_eql_t, bq_eql_f, bq_neq_t, bq_neq_f, zi_eq, ln_eq, pr_eq, ad_zero, hsub] at *
  all_goals first | trivial | exact hlS | exact hlI | exact rfl | exact ⟨hw, by omega⟩ | exact ⟨trivial, trivial⟩ | exact ⟨trivial, hw, by omega⟩ | exact ⟨trivial, hsof⟩ | exact hsof | (rename_i hx; exact absurd rfl hx) | exact absurd rfl hb | exact absurd rfl (by assumption) | exact ⟨hw, by omega, by omega, by omega⟩ | exact ⟨hsof.1, hsof.2, by omega, by omega⟩ | exact ⟨_, rfl, hsof.1, hsof.2, by omega, by omega⟩ | exact absurd (by assumption) hnI | exact absurd (by assumption) hnS | exact absurd (by assumption) hnE | trace_state
theorem ctr4' (recs : List Rec) (h : confs [(false, [.sl [.int .i64]]), (false, [.int .i64]), (false, [.int .i64])] recs) : Ctr Try.prog 4 (argDVs [(false, [.sl [.int .i64]]), (false, [.int .i64]), (false, [.int .i64])] recs) [db true] := by
  match recs, h with
  | [[.s sz es], [.v (.int _ a)], [.v (.int _ b)]], h =>
    simp only [confs, confR, confL] at h
    obtain ⟨⟨⟨rfl, hm, hes⟩, _⟩, ⟨⟨rfl, _⟩, _⟩, ⟨⟨rfl, _⟩, _⟩, _⟩ := h
    refine ctr4 es a b ?_
    intro e he
    match e, hes e he with
    | [.v (.int _ a)], h =>
      simp only [confR, confL] at h
      obtain ⟨⟨rfl, _⟩, _⟩ := h
      rfl
end Go.V
