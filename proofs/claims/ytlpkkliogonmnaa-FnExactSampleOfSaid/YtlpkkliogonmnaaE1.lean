/-
  Contracts of the functions on samples, by evaluation of conditions on their code.
-/
import Derived.Test.YtlpkkliogonmnaaS3
import Derived.Test.YtlpkkliogonmnaaM1
import Derived.Test.YtlpkkliogonmnaaK1
import Derived.Test.YtlpkkliogonmnaaV36
set_option linter.all false

namespace Go.V
open Go Go.Proofs
set_option maxRecDepth 1000000
set_option maxHeartbeats 1000000
structure Fns where
  inR : Int → Int → Int → Bool
  sok : List Rec → Int → Bool
  sof : List Rec → Int → Int → List Rec
  mkI : List Rec → Int → List Rec
  mkS : List Rec → Int → List Rec
  nI : List Rec → Int → Int
  nS : List Rec → Int → Int
def F0 : Fns where
  inR := inR0
  sok := sampleOk0
  sof := sampleOf0
  mkI := fun es k => markF 1 es k es.length
  mkS := fun es k => markF 2 es k es.length
  nI := fun es k => k + es.length
  nS := fun es k => k + 2 * es.length
abbrev row1 (es : List Rec) : DV := .one (.s 1 es)
abbrev row (es : List Rec) : DV := .one (.s 2 es)
theorem ctr39 (x lo hi : Int) : Ctr Try.prog 39 [di x, di lo, di hi] [db (F0.inR x lo hi)] := by
  refine ctr_of_vwpO (ctF := noCT) (F0 := ()) tabOk noCT_ok mixed 15 _ [4] [.tmp 6] Try.func39 rfl rfl rfl rfl rfl ?_
  intro pr ar sh cmp wr bq bn sel mm ln zi nn ad df cat sub rep gi gb gt gs pi pb pt ps up r F hO hr hF
  cbv
  repeat' first | refine And.intro ?_ ?_ | (refine caseB_intro (fun hb => ?_) (fun hb => ?_) <;> cbv)
  all_goals (obtain ⟨rfl, rfl, rfl, rfl, rfl, rfl, rfl, rfl, rfl, rfl, rfl, rfl, rfl, rfl, rfl, rfl, rfl, rfl, rfl, rfl, rfl, rfl, rfl, rfl, rfl, rfl⟩ := hO; subst hr)
  all_goals simp only [c_eql_t, c_eql_f, c_neq_t, c_neq_f, c_lss_t, c_lss_f, c_leq_t, c_leq_f, c_gtr_t, c_gtr_f, c_geq_t, c_geq_f, sub_ln, sub_all, bn_t, bn_f, sel_t, sel_f, bq_eql_t, bq_eql_f, bq_neq_t, bq_neq_f, zi_eq, ln_eq, pr_eq, ad_zero] at *
  all_goals first | trivial | (simp [F0, inR0, cmpI]; omega)
theorem ctr36 (x lo hi : Int) : Ctr Try.prog 36 [di x, di lo, di hi] [db (F0.inR x lo hi)] := by
  refine ctr_of_vwpO (ctF := noCT) (F0 := ()) tabOk noCT_ok mixed 15 _ [4] [.tmp 6] Try.func36 rfl rfl rfl rfl rfl ?_
  intro pr ar sh cmp wr bq bn sel mm ln zi nn ad df cat sub rep gi gb gt gs pi pb pt ps up r F hO hr hF
  cbv
  repeat' first | refine And.intro ?_ ?_ | (refine caseB_intro (fun hb => ?_) (fun hb => ?_) <;> cbv)
  all_goals (obtain ⟨rfl, rfl, rfl, rfl, rfl, rfl, rfl, rfl, rfl, rfl, rfl, rfl, rfl, rfl, rfl, rfl, rfl, rfl, rfl, rfl, rfl, rfl, rfl, rfl, rfl, rfl⟩ := hO; subst hr)
  all_goals simp only [c_eql_t, c_eql_f, c_neq_t, c_neq_f, c_lss_t, c_lss_f, c_leq_t, c_leq_f, c_gtr_t, c_gtr_f, c_geq_t, c_geq_f, sub_ln, sub_all, bn_t, bn_f, sel_t, sel_f, bq_eql_t, bq_eql_f, bq_neq_t, bq_neq_f, zi_eq, ln_eq, pr_eq, ad_zero] at *
  all_goals first | trivial | (simp [F0, inR0, cmpI]; omega)
theorem ctr17 (es : List Rec) (hw : Wf zI es) (hlen : es.length ≤ 1048576) : Ctr Try.prog 17 [row1 es] [row1 es] := by
  refine ctr_of_vwpO (ctF := noCT) (F0 := ()) tabOk noCT_ok mixed 22 _ [24] [.tmp 2] Try.func17 rfl rfl rfl rfl rfl ?_
  intro pr ar sh cmp wr bq bn sel mm ln zi nn ad df cat sub rep gi gb gt gs pi pb pt ps up r F hO hr hF
  cbv
  have h0z : fillR es zI 0 = rep (zi (ln es)) zI := by
    obtain ⟨rfl, rfl, rfl, rfl, rfl, rfl, rfl, rfl, rfl, rfl, rfl, rfl, rfl, rfl, rfl, rfl, rfl, rfl, rfl, rfl, rfl, rfl, rfl, rfl, rfl, rfl⟩ := hO
    rw [fillR_zero]; rfl
  refine ⟨?_, ?_, [0, 3, 4], [3], Int × List Rec, fun s => [.reg 4 (.one (.v (.int .i64 s.1))), .leaf 3 0 ⟨0, 0, none, .own (.s 1 s.2)⟩], fun s => 0 ≤ s.1 ∧ s.1.toNat ≤ es.length ∧ s.2 = fillR es zI s.1.toNat, fun s => es.length - s.1.toNat, ⟨(0, rep (zi (ln es)) zI), ?_, ?_⟩, ?_⟩
  · obtain ⟨rfl, rfl, rfl, rfl, rfl, rfl, rfl, rfl, rfl, rfl, rfl, rfl, rfl, rfl, rfl, rfl, rfl, rfl, rfl, rfl, rfl, rfl, rfl, rfl, rfl, rfl⟩ := hO
    exact mk_ok (b := 8) (by rw [ln_eq]; omega) (by rw [ln_eq]; omega)
  · obtain ⟨rfl, rfl, rfl, rfl, rfl, rfl, rfl, rfl, rfl, rfl, rfl, rfl, rfl, rfl, rfl, rfl, rfl, rfl, rfl, rfl, rfl, rfl, rfl, rfl, rfl, rfl⟩ := hO
    exact ⟨rfl, rfl⟩
  · exact ⟨by omega, Nat.zero_le _, h0z.symm⟩
  · cbv
  · rintro ⟨i, m⟩ hi
    replace hi : 0 ≤ i ∧ i.toNat ≤ es.length ∧ m = fillR es zI i.toNat := hi
    obtain ⟨h0, h1, hm⟩ := hi
    cbv
    repeat' first | refine And.intro ?_ ?_ | (refine caseB_intro (fun hb => ?_) (fun hb => ?_) <;> cbv) | (refine loop_step (ar .add .i64 i 1, up (.s 1 m) [(ad 0 i, 0)] [.v (.int .i64 (gi es i 0))]) ?_ ?_ (by cbv))
    all_goals (obtain ⟨rfl, rfl, rfl, rfl, rfl, rfl, rfl, rfl, rfl, rfl, rfl, rfl, rfl, rfl, rfl, rfl, rfl, rfl, rfl, rfl, rfl, rfl, rfl, rfl, rfl, rfl⟩ := hO; subst hr)
    all_goals simp only [c_eql_t, c_eql_f, c_neq_t, c_neq_f, c_lss_t, c_lss_f, c_leq_t, c_leq_f, c_gtr_t, c_gtr_f, c_geq_t, c_geq_f, sub_ln, sub_all, bn_t, bn_f, sel_t, sel_f, bq_eql_t, bq_eql_f, bq_neq_t, bq_neq_f, zi_eq, ln_eq, pr_eq, ad_zero] at *
    · exact row_ro hw h0 hb
    · simp only [repI, List.length_replicate, Int.toNat_natCast]; exact ⟨h0, hb⟩
    · rw [hm]; exact getR_some (by rw [fillR_length h1]; omega) (by rw [fillR_getD (by omega)]; exact Nat.le_refl _)
    all_goals try rw [inc64 (n := es.length) h0 (by assumption) (by omega)]
    · omega
    · omega
    · rw [show (i + 1).toNat = i.toNat + 1 from by omega, ← fillR_set (by omega), ← hm, upI_one (by rw [hm, fillR_getD (by omega)]; rfl), ← etaE_whole hw h0 hb]
      rfl
    · omega
    · simp only [repI, List.length_replicate, Int.toNat_natCast]
      rw [hm, fillR_length h1]; exact ⟨trivial, rfl⟩
    · rw [hm, show i.toNat = es.length from by omega, fillR_all]
theorem ctr20 (es : List Rec) (hw : Wf zI es) (hlen : es.length ≤ 1048576) : Ctr Try.prog 20 [row1 es, row1 es] [db true] := by
  refine ctr_of_vwpO (ctF := noCT) (F0 := ()) tabOk noCT_ok mixed 26 _ [4] [.tmp 4] Try.func20 rfl rfl rfl rfl rfl ?_
  intro pr ar sh cmp wr bq bn sel mm ln zi nn ad df cat sub rep gi gb gt gs pi pb pt ps up r F hO hr hF
  cbv
  refine caseB_intro (fun hb => ?_) (fun hb => ?_) <;> cbv
  · (obtain ⟨rfl, rfl, rfl, rfl, rfl, rfl, rfl, rfl, rfl, rfl, rfl, rfl, rfl, rfl, rfl, rfl, rfl, rfl, rfl, rfl, rfl, rfl, rfl, rfl, rfl, rfl⟩ := hO; subst hr)
    simp only [c_eql_t, c_eql_f, c_neq_t, c_neq_f, c_lss_t, c_lss_f, c_leq_t, c_leq_f, c_gtr_t, c_gtr_f, c_geq_t, c_geq_f, sub_ln, sub_all, bn_t, bn_f, sel_t, sel_f, bq_eql_t, bq_eql_f, bq_neq_t, bq_neq_f, zi_eq, ln_eq, pr_eq, ad_zero] at hb; exact absurd rfl hb
  · clear hb
    refine ⟨[0, 1, 5], [], Int, fun i => [.reg 5 (.one (.v (.int .i64 i)))], fun i => 0 ≤ i ∧ i.toNat ≤ es.length, fun i => es.length - i.toNat, ⟨0, ?_, ?_⟩, ?_⟩
    · exact ⟨by omega, Nat.zero_le _⟩
    · cbv
    · rintro i hi
      replace hi : 0 ≤ i ∧ i.toNat ≤ es.length := hi
      obtain ⟨h0, h1⟩ := hi
      cbv
      repeat' first | refine And.intro ?_ ?_ | (refine caseB_intro (fun hb => ?_) (fun hb => ?_) <;> cbv) | (refine loop_step (ar .add .i64 i 1) ?_ ?_ (by cbv))
      all_goals (obtain ⟨rfl, rfl, rfl, rfl, rfl, rfl, rfl, rfl, rfl, rfl, rfl, rfl, rfl, rfl, rfl, rfl, rfl, rfl, rfl, rfl, rfl, rfl, rfl, rfl, rfl, rfl⟩ := hO; subst hr)
      all_goals simp only [c_eql_t, c_eql_f, c_neq_t, c_neq_f, c_lss_t, c_lss_f, c_leq_t, c_leq_f, c_gtr_t, c_gtr_f, c_geq_t, c_geq_f, sub_ln, sub_all, bn_t, bn_f, sel_t, sel_f, bq_eql_t, bq_eql_f, bq_neq_t, bq_neq_f, zi_eq, ln_eq, pr_eq, ad_zero] at *
      · exact row_ro hw h0 hb
      · exact row_ro hw h0 hb
      · kernel_rfl
      · exact absurd rfl hb
      all_goals try rw [inc64 (n := es.length) h0 (by assumption) (by omega)]
      · omega
      · omega
      · omega
def ct1 (F : Fns) : CT := fun f ds => match f, ds with
  | 39, [.one (.v (.int .i64 x)), .one (.v (.int .i64 lo)), .one (.v (.int .i64 hi))] => some (fun _ => True, [db (F.inR x lo hi)])
  | 36, [.one (.v (.int .i64 x)), .one (.v (.int .i64 lo)), .one (.v (.int .i64 hi))] => some (fun _ => True, [db (F.inR x lo hi)])
  | _, _ => none
theorem ct1_ok : CTok Try.prog (ct1 F0) := by
  intro f ds pre res h hp
  unfold ct1 at h
  split at h
  · cases h; exact ctr39 _ _ _
  · cases h; exact ctr36 _ _ _
  · cases h
theorem ctr40 (es : List Rec) (every : Int) (hw : Wf zI es) (hlen : es.length ≤ 1048576) : Ctr Try.prog 40 [row1 es, di every] [db (F0.sok es every)] := by
  refine ctr_of_vwpO tabOk ct1_ok mixed 24 _ [4] [.tmp 4] Try.func40 rfl rfl rfl rfl rfl ?_
  intro pr ar sh cmp wr bq bn sel mm ln zi nn ad df cat sub rep gi gb gt gs pi pb pt ps up r F hO hr hF
  obtain ⟨inR, sok, sof, mkI, mkS, nI, nS⟩ := F
  cbv
  refine ⟨[0, 1, 4, 7, 8, 9], [], Int, fun i => [.reg 9 (.one (.v (.int .i64 i)))], fun i => 0 ≤ i ∧ i.toNat ≤ es.length ∧ ∀ j : Nat, j < i.toNat → inR0 (giI es j 0) 1 1000 = true, fun i => es.length - i.toNat, ⟨0, ?_, ?_⟩, ?_⟩
  · exact ⟨by omega, Nat.zero_le _, fun j hj => by simp at hj⟩
  · cbv
  · rintro i hi
    replace hi : 0 ≤ i ∧ i.toNat ≤ es.length ∧ ∀ j : Nat, j < i.toNat → inR0 (giI es (Int.ofNat j) 0) 1 1000 = true := hi
    obtain ⟨h0, h1, hall⟩ := hi
    cbv
    repeat' first | refine And.intro ?_ ?_ | (refine caseB_intro (fun hb => ?_) (fun hb => ?_) <;> cbv) | (refine loop_step (ar .add .i64 i 1) ?_ ?_ (by cbv))
    all_goals (obtain ⟨rfl, rfl, rfl, rfl, rfl, rfl, rfl, rfl, rfl, rfl, rfl, rfl, rfl, rfl, rfl, rfl, rfl, rfl, rfl, rfl, rfl, rfl, rfl, rfl, rfl, rfl⟩ := hO; subst hr; obtain rfl : inR = F0.inR := congrArg Fns.inR hF; obtain rfl : sok = F0.sok := congrArg Fns.sok hF; obtain rfl : sof = F0.sof := congrArg Fns.sof hF; obtain rfl : mkI = F0.mkI := congrArg Fns.mkI hF; obtain rfl : mkS = F0.mkS := congrArg Fns.mkS hF; obtain rfl : nI = F0.nI := congrArg Fns.nI hF; obtain rfl : nS = F0.nS := congrArg Fns.nS hF; clear hF)
    all_goals simp only [c_eql_t, c_eql_f, c_neq_t, c_neq_f, c_lss_t, c_lss_f, c_leq_t, c_leq_f, c_gtr_t, c_gtr_f, c_geq_t, c_geq_f, sub_ln, sub_all, bn_t, bn_f, sel_t, sel_f, bq_eql_t, bq_eql_f, bq_neq_t, bq_neq_f, zi_eq, ln_eq, pr_eq, ad_zero] at *
    · exact row_ro hw h0 hb
    · simp only [F0, sampleOk0]
      rw [sizes0_not h0 (by assumption) hb]; rfl
    all_goals try rw [inc64 (n := es.length) h0 (by assumption) (by omega)]
    · omega
    · omega
    · intro j hj
      rcases Nat.lt_or_ge j i.toNat with c | c
      · exact hall j c
      · have e : i = (j : Int) := by omega
        subst e; exact hb
    · omega
    · simp only [F0, sampleOk0]
      rw [sizes0_of (fun j hj => hall j (by omega)), decide_eq_true (show es.length ≤ 200 by omega)]; rfl
    · simp only [F0, sampleOk0]
      rw [decide_eq_false (show ¬ es.length ≤ 200 by omega)]; simp
def ct2 (F : Fns) : CT := fun f ds => match f, ds with
  | 39, [.one (.v (.int .i64 x)), .one (.v (.int .i64 lo)), .one (.v (.int .i64 hi))] => some (fun _ => True, [db (F.inR x lo hi)])
  | 36, [.one (.v (.int .i64 x)), .one (.v (.int .i64 lo)), .one (.v (.int .i64 hi))] => some (fun _ => True, [db (F.inR x lo hi)])
  | 40, [.one (.s 1 es), .one (.v (.int .i64 e))] => some (fun _ => Wf zI es ∧ es.length ≤ 1048576, [db (F.sok es e)])
  | _, _ => none
theorem ct2_ok : CTok Try.prog (ct2 F0) := by
  intro f ds pre res h hp
  unfold ct2 at h
  split at h
  · cases h; exact ctr39 _ _ _
  · cases h; exact ctr36 _ _ _
  · cases h; exact ctr40 _ _ hp.1 hp.2
  · cases h
theorem ctr18 (es : List Rec) (every start : Int) (hw : Wf zI es) (hlen : es.length ≤ 1048576) : Ctr Try.prog 18 [row1 es, di every, di start] [row (F0.sof es every start)] := by
  refine ctr_of_vwpO tabOk ct2_ok mixed 55 _ [38] [.tmp 6] Try.func18 rfl rfl rfl rfl rfl ?_
  intro pr ar sh cmp wr bq bn sel mm ln zi nn ad df cat sub rep gi gb gt gs pi pb pt ps up r F hO hr hF
  obtain ⟨inR, sok, sof, mkI, mkS, nI, nS⟩ := F
  cbv
  have hsub : 1 ≤ every ∧ every ≤ 1000 → arI .sub .i64 every 1 = every - 1 := fun h => sub64 (by omega)
  repeat' first | refine And.intro ?_ ?_ | (refine caseB_intro (fun hb => ?_) (fun hb => ?_) <;> cbv)
  · (obtain ⟨rfl, rfl, rfl, rfl, rfl, rfl, rfl, rfl, rfl, rfl, rfl, rfl, rfl, rfl, rfl, rfl, rfl, rfl, rfl, rfl, rfl, rfl, rfl, rfl, rfl, rfl⟩ := hO; subst hr; obtain rfl : inR = F0.inR := congrArg Fns.inR hF; obtain rfl : sok = F0.sok := congrArg Fns.sok hF; obtain rfl : sof = F0.sof := congrArg Fns.sof hF; obtain rfl : mkI = F0.mkI := congrArg Fns.mkI hF; obtain rfl : mkS = F0.mkS := congrArg Fns.mkS hF; obtain rfl : nI = F0.nI := congrArg Fns.nI hF; obtain rfl : nS = F0.nS := congrArg Fns.nS hF; clear hF)
    exact ⟨hw, hlen⟩
  · (obtain ⟨rfl, rfl, rfl, rfl, rfl, rfl, rfl, rfl, rfl, rfl, rfl, rfl, rfl, rfl, rfl, rfl, rfl, rfl, rfl, rfl, rfl, rfl, rfl, rfl, rfl, rfl⟩ := hO; subst hr; obtain rfl : inR = F0.inR := congrArg Fns.inR hF; obtain rfl : sok = F0.sok := congrArg Fns.sok hF; obtain rfl : sof = F0.sof := congrArg Fns.sof hF; obtain rfl : mkI = F0.mkI := congrArg Fns.mkI hF; obtain rfl : mkS = F0.mkS := congrArg Fns.mkS hF; obtain rfl : nI = F0.nI := congrArg Fns.nI hF; obtain rfl : nS = F0.nS := congrArg Fns.nS hF; clear hF)
    simp only [c_eql_t, c_eql_f, c_neq_t, c_neq_f, c_lss_t, c_lss_f, c_leq_t, c_leq_f, c_gtr_t, c_gtr_f, c_geq_t, c_geq_f, sub_ln, sub_all, bn_t, bn_f, sel_t, sel_f, bq_eql_t, bq_eql_f, bq_neq_t, bq_neq_f, zi_eq, ln_eq, pr_eq, ad_zero, F0] at *
    simp only [sampleOf0, hb, Bool.false_and, Bool.false_eq_true, if_false]
  · trivial
  · (obtain ⟨rfl, rfl, rfl, rfl, rfl, rfl, rfl, rfl, rfl, rfl, rfl, rfl, rfl, rfl, rfl, rfl, rfl, rfl, rfl, rfl, rfl, rfl, rfl, rfl, rfl, rfl⟩ := hO; subst hr; obtain rfl : inR = F0.inR := congrArg Fns.inR hF; obtain rfl : sok = F0.sok := congrArg Fns.sok hF; obtain rfl : sof = F0.sof := congrArg Fns.sof hF; obtain rfl : mkI = F0.mkI := congrArg Fns.mkI hF; obtain rfl : mkS = F0.mkS := congrArg Fns.mkS hF; obtain rfl : nI = F0.nI := congrArg Fns.nI hF; obtain rfl : nS = F0.nS := congrArg Fns.nS hF; clear hF)
    trivial
  · (obtain ⟨rfl, rfl, rfl, rfl, rfl, rfl, rfl, rfl, rfl, rfl, rfl, rfl, rfl, rfl, rfl, rfl, rfl, rfl, rfl, rfl, rfl, rfl, rfl, rfl, rfl, rfl⟩ := hO; subst hr; obtain rfl : inR = F0.inR := congrArg Fns.inR hF; obtain rfl : sok = F0.sok := congrArg Fns.sok hF; obtain rfl : sof = F0.sof := congrArg Fns.sof hF; obtain rfl : mkI = F0.mkI := congrArg Fns.mkI hF; obtain rfl : mkS = F0.mkS := congrArg Fns.mkS hF; obtain rfl : nI = F0.nI := congrArg Fns.nI hF; obtain rfl : nS = F0.nS := congrArg Fns.nS hF; clear hF)
    simp only [c_eql_t, c_eql_f, c_neq_t, c_neq_f, c_lss_t, c_lss_f, c_leq_t, c_leq_f, c_gtr_t, c_gtr_f, c_geq_t, c_geq_f, sub_ln, sub_all, bn_t, bn_f, sel_t, sel_f, bq_eql_t, bq_eql_f, bq_neq_t, bq_neq_f, zi_eq, ln_eq, pr_eq, ad_zero, F0] at *
    have h1 : 1 ≤ every ∧ every ≤ 1000 := by
      have hok := ‹sampleOk0 es every = true›
      simp only [sampleOk0, Bool.and_eq_true, inR0_t] at hok; exact hok.2.2
    have hb := ‹inR0 start 0 (arI .sub .i64 every 1) = false›
    rw [hsub h1] at hb
    simp only [sampleOf0, hb, Bool.and_false, Bool.false_eq_true, if_false]
  · trivial
  · (obtain ⟨rfl, rfl, rfl, rfl, rfl, rfl, rfl, rfl, rfl, rfl, rfl, rfl, rfl, rfl, rfl, rfl, rfl, rfl, rfl, rfl, rfl, rfl, rfl, rfl, rfl, rfl⟩ := hO; subst hr; obtain rfl : inR = F0.inR := congrArg Fns.inR hF; obtain rfl : sok = F0.sok := congrArg Fns.sok hF; obtain rfl : sof = F0.sof := congrArg Fns.sof hF; obtain rfl : mkI = F0.mkI := congrArg Fns.mkI hF; obtain rfl : mkS = F0.mkS := congrArg Fns.mkS hF; obtain rfl : nI = F0.nI := congrArg Fns.nI hF; obtain rfl : nS = F0.nS := congrArg Fns.nS hF; clear hF)
    exact ⟨rfl, rfl⟩
  · have facts : sampleOk0 es every = true ∧ inR0 start 0 (every - 1) = true := by
      (obtain ⟨rfl, rfl, rfl, rfl, rfl, rfl, rfl, rfl, rfl, rfl, rfl, rfl, rfl, rfl, rfl, rfl, rfl, rfl, rfl, rfl, rfl, rfl, rfl, rfl, rfl, rfl⟩ := hO; subst hr; obtain rfl : inR = F0.inR := congrArg Fns.inR hF; obtain rfl : sok = F0.sok := congrArg Fns.sok hF; obtain rfl : sof = F0.sof := congrArg Fns.sof hF; obtain rfl : mkI = F0.mkI := congrArg Fns.mkI hF; obtain rfl : mkS = F0.mkS := congrArg Fns.mkS hF; obtain rfl : nI = F0.nI := congrArg Fns.nI hF; obtain rfl : nS = F0.nS := congrArg Fns.nS hF; clear hF)
      simp only [c_eql_t, c_eql_f, c_neq_t, c_neq_f, c_lss_t, c_lss_f, c_leq_t, c_leq_f, c_gtr_t, c_gtr_f, c_geq_t, c_geq_f, sub_ln, sub_all, bn_t, bn_f, sel_t, sel_f, bq_eql_t, bq_eql_f, bq_neq_t, bq_neq_f, zi_eq, ln_eq, pr_eq, ad_zero, F0] at *
      have hok := ‹sampleOk0 es every = true›
      have h1 : 1 ≤ every ∧ every ≤ 1000 := by
        simp only [sampleOk0, Bool.and_eq_true, inR0_t] at hok; exact hok.2.2
      have hb := ‹inR0 start 0 (arI .sub .i64 every 1) = true›
      rw [hsub h1] at hb
      exact ⟨hok, hb⟩
    clear hb
    obtain ⟨hok, hst⟩ := facts
    have hok2 := hok
    simp only [sampleOk0, Bool.and_eq_true, decide_eq_true_eq, inR0_t] at hok2
    obtain ⟨hsz, hl200, he1, he2⟩ := hok2
    have hst2 := inR0_t.1 hst
    refine ⟨[1, 7, 8, 9, 26, 27, 28], [7], Int × List Rec × Int × Int, fun s => match s with | (i, out, nx, at_) => [.reg 28 (.one (.v (.int .i64 i))), .reg 7 (.one (.vw 7 0 0 0 (ln out))), .leaf 7 0 ⟨0, 0, none, .own (.s 2 out)⟩, .reg 8 (.one (.v (.int .i64 nx))), .reg 9 (.one (.v (.int .i64 at_)))],
      fun s => 0 ≤ s.1 ∧ s.1.toNat ≤ es.length ∧ s.2 = sampRun es every start s.1.toNat, fun s => es.length - s.1.toNat, ⟨(0, [], start, 0), ?_, ?_⟩, ?_⟩
    · exact ⟨by omega, Nat.zero_le _, by simp [sampRun]⟩
    · cbv
    · rintro ⟨i, out, nx, at_⟩ hi
      replace hi : 0 ≤ i ∧ i.toNat ≤ es.length ∧ (out, nx, at_) = sampRun es every start i.toNat := hi
      obtain ⟨h0, h1, hrun⟩ := hi
      obtain ⟨a1, a2, a3, a4, a5, a6⟩ := sampRun_ok hsz ⟨he1, he2⟩ hst2 i.toNat h1
      rw [← hrun] at a1 a2 a3 a4 a5 a6
      simp only at a1 a2 a3 a4 a5 a6
      replace a6 : at_ ≤ 1000 * i := by omega
      cbv
      have hget : i.toNat < es.length → 1 ≤ giI es i 0 ∧ giI es i 0 ≤ 1000 := fun h => sizes0_at hsz h0 (by omega)
      repeat' first | refine And.intro ?_ ?_ | (refine caseB_intro (fun hb => ?_) (fun hb => ?_) <;> cbv)
      · (obtain ⟨rfl, rfl, rfl, rfl, rfl, rfl, rfl, rfl, rfl, rfl, rfl, rfl, rfl, rfl, rfl, rfl, rfl, rfl, rfl, rfl, rfl, rfl, rfl, rfl, rfl, rfl⟩ := hO; subst hr; obtain rfl : inR = F0.inR := congrArg Fns.inR hF; obtain rfl : sok = F0.sok := congrArg Fns.sok hF; obtain rfl : sof = F0.sof := congrArg Fns.sof hF; obtain rfl : mkI = F0.mkI := congrArg Fns.mkI hF; obtain rfl : mkS = F0.mkS := congrArg Fns.mkS hF; obtain rfl : nI = F0.nI := congrArg Fns.nI hF; obtain rfl : nS = F0.nS := congrArg Fns.nS hF; clear hF)
        simp only [c_eql_t, c_eql_f, c_neq_t, c_neq_f, c_lss_t, c_lss_f, c_leq_t, c_leq_f, c_gtr_t, c_gtr_f, c_geq_t, c_geq_f, sub_ln, sub_all, bn_t, bn_f, sel_t, sel_f, bq_eql_t, bq_eql_f, bq_neq_t, bq_neq_f, zi_eq, ln_eq, pr_eq, ad_zero] at *
        exact row_ro hw h0 (by assumption)
      · -- the inner loop
        have hlt : i.toNat < es.length := by
          (obtain ⟨rfl, rfl, rfl, rfl, rfl, rfl, rfl, rfl, rfl, rfl, rfl, rfl, rfl, rfl, rfl, rfl, rfl, rfl, rfl, rfl, rfl, rfl, rfl, rfl, rfl, rfl⟩ := hO; subst hr; obtain rfl : inR = F0.inR := congrArg Fns.inR hF; obtain rfl : sok = F0.sok := congrArg Fns.sok hF; obtain rfl : sof = F0.sof := congrArg Fns.sof hF; obtain rfl : mkI = F0.mkI := congrArg Fns.mkI hF; obtain rfl : mkS = F0.mkS := congrArg Fns.mkS hF; obtain rfl : nI = F0.nI := congrArg Fns.nI hF; obtain rfl : nS = F0.nS := congrArg Fns.nS hF; clear hF)
          simp only [c_eql_t, c_eql_f, c_neq_t, c_neq_f, c_lss_t, c_lss_f, c_leq_t, c_leq_f, c_gtr_t, c_gtr_f, c_geq_t, c_geq_f, sub_ln, sub_all, bn_t, bn_f, sel_t, sel_f, bq_eql_t, bq_eql_f, bq_neq_t, bq_neq_f, zi_eq, ln_eq, pr_eq, ad_zero] at *
          have : i < es.length := by assumption
          omega
        have hs := hget hlt
        refine ⟨[1, 7, 8, 9, 11, 12, 26, 27, 28], [7], Int × Int, fun s => match s with | (x, n) => [.reg 8 (.one (.v (.int .i64 x))), .reg 12 (.one (.v (.int .i64 n)))],
          fun s => 0 ≤ s.2 ∧ s.2 ≤ s.1 ∧ s.1 ≤ at_ + giI es i 0 + 1000 ∧ innerN every (at_ + giI es i 0) s.1 s.2 = innerN every (at_ + giI es i 0) nx 0, fun s => (at_ + giI es i 0 - s.1).toNat, ⟨(nx, 0), ?_, ?_⟩, ?_⟩
        · exact ⟨by omega, a3, by simp only; omega, rfl⟩
        · cbv
        · rintro ⟨x, n⟩ hi
          replace hi : 0 ≤ n ∧ n ≤ x ∧ x ≤ at_ + giI es i 0 + 1000 ∧ innerN every (at_ + giI es i 0) x n = innerN every (at_ + giI es i 0) nx 0 := hi
          obtain ⟨b0, b1, b2, b3⟩ := hi
          have hadd : arI .add .i64 at_ (giI es i 0) = at_ + giI es i 0 := add64 (by omega)
          have hadd2 : arI .add .i64 x every = x + every := add64 (by omega)
          have hadd3 : arI .add .i64 n 1 = n + 1 := add64 (by omega)
          have hadd4 : arI .add .i64 i 1 = i + 1 := add64 (by omega)
          have hmul : arI .mul .i64 n every = n * every := IntWalk.i64_in _ (by
            have h1 : n * every ≤ 401000 * 1000 := Int.mul_le_mul (by omega) he2 (by omega) (by omega)
            have h2 : 0 ≤ n * every := Int.mul_nonneg b0 (by omega)
            omega)
          have hstep : (i.toNat + 1 ≤ es.length) → sampRun es every start (i.toNat + 1) = sampStep every (out, nx, at_) (es.getD i.toNat []) := fun h => by rw [sampRun_succ (by omega), ← hrun]
          cbv
          repeat' first | refine And.intro ?_ ?_ | (refine caseB_intro (fun hb => ?_) (fun hb => ?_) <;> cbv) | (refine loop_step (ar .add .i64 x every, ar .add .i64 n 1) ?_ ?_ ?_; rotate_left 2; focus (cbv; done) ) | ( refine loop_step (ar .add .i64 i 1, cat out (sub [[.v (.int .i64 (gi es i 0)), .v (.int .i64 (ar .mul .i64 n every))]] 0 (ln [[.v (.int .i64 (gi es i 0)), .v (.int .i64 (ar .mul .i64 n every))]])), x, ar .add .i64 at_ (gi es i 0)) ?_ ?_ ?_; rotate_left 2; focus (cbv; done) ) | ( refine loop_step (ar .add .i64 i 1, out, x, ar .add .i64 at_ (gi es i 0)) ?_ ?_ ?_; rotate_left 2; focus (cbv; done))
          all_goals (obtain ⟨rfl, rfl, rfl, rfl, rfl, rfl, rfl, rfl, rfl, rfl, rfl, rfl, rfl, rfl, rfl, rfl, rfl, rfl, rfl, rfl, rfl, rfl, rfl, rfl, rfl, rfl⟩ := hO; subst hr; obtain rfl : inR = F0.inR := congrArg Fns.inR hF; obtain rfl : sok = F0.sok := congrArg Fns.sok hF; obtain rfl : sof = F0.sof := congrArg Fns.sof hF; obtain rfl : mkI = F0.mkI := congrArg Fns.mkI hF; obtain rfl : mkS = F0.mkS := congrArg Fns.mkS hF; obtain rfl : nI = F0.nI := congrArg Fns.nI hF; obtain rfl : nS = F0.nS := congrArg Fns.nS hF; clear hF)
          all_goals simp only [c_eql_t, c_eql_f, c_neq_t, c_neq_f, c_lss_t, c_lss_f, c_leq_t, c_leq_f, c_gtr_t, c_gtr_f, c_geq_t, c_geq_f, sub_ln, sub_all, bn_t, bn_f, sel_t, sel_f, bq_eql_t, bq_eql_f, bq_neq_t, bq_neq_f, zi_eq, ln_eq, pr_eq, ad_zero, hadd, hadd2, hadd3, hadd4, hmul] at *
          · omega
          · omega
          · omega
          · rw [← innerN_step he1 (by assumption)]; exact b3
          · omega
          · exact ⟨trivial, trivial⟩
          · simp [scalRecs, scalRec, scal]
          · simp only [List.length_cons, List.length_nil]; omega
          · exact ⟨trivial, trivial⟩
          · omega
          · omega
          · rw [show (i + 1).toNat = i.toNat + 1 from by omega, hstep (by omega)]
            rw [innerN_done (by assumption)] at b3
            simp only [sampStep]
            rw [show lfI ((es.getD i.toNat []).getD 0 .g) = giI es i 0 from rfl, ← b3]
            simp only
            rw [if_pos (by assumption)]; rfl
          · omega
          · omega
          · omega
          · rw [show (i + 1).toNat = i.toNat + 1 from by omega, hstep (by omega)]
            rw [innerN_done (by assumption)] at b3
            simp only [sampStep]
            rw [show lfI ((es.getD i.toNat []).getD 0 .g) = giI es i 0 from rfl, ← b3]
            simp only
            rw [if_neg (show ¬ n > 0 by omega)]
          · omega
      · (obtain ⟨rfl, rfl, rfl, rfl, rfl, rfl, rfl, rfl, rfl, rfl, rfl, rfl, rfl, rfl, rfl, rfl, rfl, rfl, rfl, rfl, rfl, rfl, rfl, rfl, rfl, rfl⟩ := hO; subst hr; obtain rfl : inR = F0.inR := congrArg Fns.inR hF; obtain rfl : sok = F0.sok := congrArg Fns.sok hF; obtain rfl : sof = F0.sof := congrArg Fns.sof hF; obtain rfl : mkI = F0.mkI := congrArg Fns.mkI hF; obtain rfl : mkS = F0.mkS := congrArg Fns.mkS hF; obtain rfl : nI = F0.nI := congrArg Fns.nI hF; obtain rfl : nS = F0.nS := congrArg Fns.nS hF; clear hF)
        exact ⟨rfl, rfl⟩
      · (obtain ⟨rfl, rfl, rfl, rfl, rfl, rfl, rfl, rfl, rfl, rfl, rfl, rfl, rfl, rfl, rfl, rfl, rfl, rfl, rfl, rfl, rfl, rfl, rfl, rfl, rfl, rfl⟩ := hO; subst hr; obtain rfl : inR = F0.inR := congrArg Fns.inR hF; obtain rfl : sok = F0.sok := congrArg Fns.sok hF; obtain rfl : sof = F0.sof := congrArg Fns.sof hF; obtain rfl : mkI = F0.mkI := congrArg Fns.mkI hF; obtain rfl : mkS = F0.mkS := congrArg Fns.mkS hF; obtain rfl : nI = F0.nI := congrArg Fns.nI hF; obtain rfl : nS = F0.nS := congrArg Fns.nS hF; clear hF)
        simp only [c_eql_t, c_eql_f, c_neq_t, c_neq_f, c_lss_t, c_lss_f, c_leq_t, c_leq_f, c_gtr_t, c_gtr_f, c_geq_t, c_geq_f, sub_ln, sub_all, bn_t, bn_f, sel_t, sel_f, bq_eql_t, bq_eql_f, bq_neq_t, bq_neq_f, zi_eq, ln_eq, pr_eq, ad_zero, F0] at *
        have : i.toNat = es.length := by
          have : (es.length : Int) ≤ i := by assumption
          omega
        rw [this] at hrun
        simp only [sampleOf0, hok, hst, Bool.and_true, if_true, ← hrun]
      · trivial
theorem ctr16 (es : List Rec) (every start : Int) (hw : Wf zI es) (hlen : es.length ≤ 1048576) : Ctr Try.prog 16 [row1 es, di every, di start] [row (F0.sof es every start)] := by
  refine ctr_of_vwpO tabOk ct2_ok mixed 83 _ [38] [.tmp 6] Try.func16 rfl rfl rfl rfl rfl ?_
  intro pr ar sh cmp wr bq bn sel mm ln zi nn ad df cat sub rep gi gb gt gs pi pb pt ps up r F hO hr hF
  obtain ⟨inR, sok, sof, mkI, mkS, nI, nS⟩ := F
  cbv
  repeat' first | refine And.intro ?_ ?_ | (refine caseB_intro (fun hb => ?_) (fun hb => ?_) <;> cbv)
  all_goals first | trivial | ((obtain ⟨rfl, rfl, rfl, rfl, rfl, rfl, rfl, rfl, rfl, rfl, rfl, rfl, rfl, rfl, rfl, rfl, rfl, rfl, rfl, rfl, rfl, rfl, rfl, rfl, rfl, rfl⟩ := hO; subst hr; obtain rfl : inR = F0.inR := congrArg Fns.inR hF; obtain rfl : sok = F0.sok := congrArg Fns.sok hF; obtain rfl : sof = F0.sof := congrArg Fns.sof hF; obtain rfl : mkI = F0.mkI := congrArg Fns.mkI hF; obtain rfl : mkS = F0.mkS := congrArg Fns.mkS hF; obtain rfl : nI = F0.nI := congrArg Fns.nI hF; obtain rfl : nS = F0.nS := congrArg Fns.nS hF; clear hF); exact trivial) | ((obtain ⟨rfl, rfl, rfl, rfl, rfl, rfl, rfl, rfl, rfl, rfl, rfl, rfl, rfl, rfl, rfl, rfl, rfl, rfl, rfl, rfl, rfl, rfl, rfl, rfl, rfl, rfl⟩ := hO; subst hr; obtain rfl : inR = F0.inR := congrArg Fns.inR hF; obtain rfl : sok = F0.sok := congrArg Fns.sok hF; obtain rfl : sof = F0.sof := congrArg Fns.sof hF; obtain rfl : mkI = F0.mkI := congrArg Fns.mkI hF; obtain rfl : mkS = F0.mkS := congrArg Fns.mkS hF; obtain rfl : nI = F0.nI := congrArg Fns.nI hF; obtain rfl : nS = F0.nS := congrArg Fns.nS hF; clear hF); simp only [c_eql_t, c_eql_f, c_neq_t, c_neq_f, c_lss_t, c_lss_f, c_leq_t, c_leq_f, c_gtr_t, c_gtr_f, c_geq_t, c_geq_f, sub_ln, sub_all, bn_t, bn_f, sel_t, sel_f, bq_eql_t, bq_eql_f, bq_neq_t, bq_neq_f, zi_eq, ln_eq, pr_eq, ad_zero, F0] at *; first | exact ⟨trivial, trivial⟩ | trivial | exact sof_nil1 (by assumption) | exact sof_nil2 (by assumption) | exact sof_nil3 (by assumption) (by assumption)) | skip
  have facts : es.length ≤ 200 ∧ inR0 every 1 1000 = true ∧ inR0 start 0 (every - 1) = true := by
    (obtain ⟨rfl, rfl, rfl, rfl, rfl, rfl, rfl, rfl, rfl, rfl, rfl, rfl, rfl, rfl, rfl, rfl, rfl, rfl, rfl, rfl, rfl, rfl, rfl, rfl, rfl, rfl⟩ := hO; subst hr; obtain rfl : inR = F0.inR := congrArg Fns.inR hF; obtain rfl : sok = F0.sok := congrArg Fns.sok hF; obtain rfl : sof = F0.sof := congrArg Fns.sof hF; obtain rfl : mkI = F0.mkI := congrArg Fns.mkI hF; obtain rfl : mkS = F0.mkS := congrArg Fns.mkS hF; obtain rfl : nI = F0.nI := congrArg Fns.nI hF; obtain rfl : nS = F0.nS := congrArg Fns.nS hF; clear hF)
    simp only [c_eql_t, c_eql_f, c_neq_t, c_neq_f, c_lss_t, c_lss_f, c_leq_t, c_leq_f, c_gtr_t, c_gtr_f, c_geq_t, c_geq_f, sub_ln, sub_all, bn_t, bn_f, sel_t, sel_f, bq_eql_t, bq_eql_f, bq_neq_t, bq_neq_f, zi_eq, ln_eq, pr_eq, ad_zero, F0] at *
    have h1 : (es.length : Int) ≤ 200 := by assumption
    have h2 : inR0 every 1 1000 = true := by assumption
    have h3 : inR0 start 0 (arI .sub .i64 every 1) = true := by assumption
    rw [sub_one h2] at h3
    exact ⟨by omega, h2, h3⟩
  obtain ⟨hl200, hev, hst⟩ := facts
  have hst2 := inR0_t.1 hst
  obtain ⟨he1, he2⟩ := inR0_t.1 hev
  refine ⟨[0, 1, 2, 7, 8], [7], Int, fun i => [.reg 8 (.one (.v (.int .i64 i)))], fun i => 0 ≤ i ∧ i.toNat ≤ es.length ∧ ∀ j : Nat, j < i.toNat → inR0 (giI es j 0) 1 1000 = true, fun i => es.length - i.toNat, ⟨0, ?_, ?_⟩, ?_⟩
  · exact ⟨by omega, Nat.zero_le _, fun j hj => by simp at hj⟩
  · cbv
  · rintro i hi
    replace hi : 0 ≤ i ∧ i.toNat ≤ es.length ∧ ∀ j : Nat, j < i.toNat → inR0 (giI es (Int.ofNat j) 0) 1 1000 = true := hi
    obtain ⟨h0, h1, hall⟩ := hi
    cbv
    repeat' first | refine And.intro ?_ ?_ | (refine caseB_intro (fun hb => ?_) (fun hb => ?_) <;> cbv) | (refine loop_step (ar .add .i64 i 1) ?_ ?_ ?_; rotate_left 2; focus (cbv; done))
    · (obtain ⟨rfl, rfl, rfl, rfl, rfl, rfl, rfl, rfl, rfl, rfl, rfl, rfl, rfl, rfl, rfl, rfl, rfl, rfl, rfl, rfl, rfl, rfl, rfl, rfl, rfl, rfl⟩ := hO; subst hr; obtain rfl : inR = F0.inR := congrArg Fns.inR hF; obtain rfl : sok = F0.sok := congrArg Fns.sok hF; obtain rfl : sof = F0.sof := congrArg Fns.sof hF; obtain rfl : mkI = F0.mkI := congrArg Fns.mkI hF; obtain rfl : mkS = F0.mkS := congrArg Fns.mkS hF; obtain rfl : nI = F0.nI := congrArg Fns.nI hF; obtain rfl : nS = F0.nS := congrArg Fns.nS hF; clear hF)
      simp only [c_eql_t, c_eql_f, c_neq_t, c_neq_f, c_lss_t, c_lss_f, c_leq_t, c_leq_f, c_gtr_t, c_gtr_f, c_geq_t, c_geq_f, sub_ln, sub_all, bn_t, bn_f, sel_t, sel_f, bq_eql_t, bq_eql_f, bq_neq_t, bq_neq_f, zi_eq, ln_eq, pr_eq, ad_zero] at *
      exact row_ro hw h0 (by assumption)
    · (obtain ⟨rfl, rfl, rfl, rfl, rfl, rfl, rfl, rfl, rfl, rfl, rfl, rfl, rfl, rfl, rfl, rfl, rfl, rfl, rfl, rfl, rfl, rfl, rfl, rfl, rfl, rfl⟩ := hO; subst hr; obtain rfl : inR = F0.inR := congrArg Fns.inR hF; obtain rfl : sok = F0.sok := congrArg Fns.sok hF; obtain rfl : sof = F0.sof := congrArg Fns.sof hF; obtain rfl : mkI = F0.mkI := congrArg Fns.mkI hF; obtain rfl : mkS = F0.mkS := congrArg Fns.mkS hF; obtain rfl : nI = F0.nI := congrArg Fns.nI hF; obtain rfl : nS = F0.nS := congrArg Fns.nS hF; clear hF)
      exact trivial
    · (obtain ⟨rfl, rfl, rfl, rfl, rfl, rfl, rfl, rfl, rfl, rfl, rfl, rfl, rfl, rfl, rfl, rfl, rfl, rfl, rfl, rfl, rfl, rfl, rfl, rfl, rfl, rfl⟩ := hO; subst hr; obtain rfl : inR = F0.inR := congrArg Fns.inR hF; obtain rfl : sok = F0.sok := congrArg Fns.sok hF; obtain rfl : sof = F0.sof := congrArg Fns.sof hF; obtain rfl : mkI = F0.mkI := congrArg Fns.mkI hF; obtain rfl : mkS = F0.mkS := congrArg Fns.mkS hF; obtain rfl : nI = F0.nI := congrArg Fns.nI hF; obtain rfl : nS = F0.nS := congrArg Fns.nS hF; clear hF)
      exact ⟨rfl, rfl⟩
    · (obtain ⟨rfl, rfl, rfl, rfl, rfl, rfl, rfl, rfl, rfl, rfl, rfl, rfl, rfl, rfl, rfl, rfl, rfl, rfl, rfl, rfl, rfl, rfl, rfl, rfl, rfl, rfl⟩ := hO; subst hr; obtain rfl : inR = F0.inR := congrArg Fns.inR hF; obtain rfl : sok = F0.sok := congrArg Fns.sok hF; obtain rfl : sof = F0.sof := congrArg Fns.sof hF; obtain rfl : mkI = F0.mkI := congrArg Fns.mkI hF; obtain rfl : mkS = F0.mkS := congrArg Fns.mkS hF; obtain rfl : nI = F0.nI := congrArg Fns.nI hF; obtain rfl : nS = F0.nS := congrArg Fns.nS hF; clear hF)
      exact ⟨rfl, rfl⟩
    · -- a size that does not fit
      (obtain ⟨rfl, rfl, rfl, rfl, rfl, rfl, rfl, rfl, rfl, rfl, rfl, rfl, rfl, rfl, rfl, rfl, rfl, rfl, rfl, rfl, rfl, rfl, rfl, rfl, rfl, rfl⟩ := hO; subst hr; obtain rfl : inR = F0.inR := congrArg Fns.inR hF; obtain rfl : sok = F0.sok := congrArg Fns.sok hF; obtain rfl : sof = F0.sof := congrArg Fns.sof hF; obtain rfl : mkI = F0.mkI := congrArg Fns.mkI hF; obtain rfl : mkS = F0.mkS := congrArg Fns.mkS hF; obtain rfl : nI = F0.nI := congrArg Fns.nI hF; obtain rfl : nS = F0.nS := congrArg Fns.nS hF; clear hF)
      simp only [c_eql_t, c_eql_f, c_neq_t, c_neq_f, c_lss_t, c_lss_f, c_leq_t, c_leq_f, c_gtr_t, c_gtr_f, c_geq_t, c_geq_f, sub_ln, sub_all, bn_t, bn_f, sel_t, sel_f, bq_eql_t, bq_eql_f, bq_neq_t, bq_neq_f, zi_eq, ln_eq, pr_eq, ad_zero, F0] at *
      exact sof_nil4 (sizes0_not h0 (by assumption) (by assumption))
    · trivial
    · (obtain ⟨rfl, rfl, rfl, rfl, rfl, rfl, rfl, rfl, rfl, rfl, rfl, rfl, rfl, rfl, rfl, rfl, rfl, rfl, rfl, rfl, rfl, rfl, rfl, rfl, rfl, rfl⟩ := hO; subst hr; obtain rfl : inR = F0.inR := congrArg Fns.inR hF; obtain rfl : sok = F0.sok := congrArg Fns.sok hF; obtain rfl : sof = F0.sof := congrArg Fns.sof hF; obtain rfl : mkI = F0.mkI := congrArg Fns.mkI hF; obtain rfl : mkS = F0.mkS := congrArg Fns.mkS hF; obtain rfl : nI = F0.nI := congrArg Fns.nI hF; obtain rfl : nS = F0.nS := congrArg Fns.nS hF; clear hF)
      simp only [c_eql_t, c_eql_f, c_neq_t, c_neq_f, c_lss_t, c_lss_f, c_leq_t, c_leq_f, c_gtr_t, c_gtr_f, c_geq_t, c_geq_f, sub_ln, sub_all, bn_t, bn_f, sel_t, sel_f, bq_eql_t, bq_eql_f, bq_neq_t, bq_neq_f, zi_eq, ln_eq, pr_eq, ad_zero] at *
      rw [inc64 (n := es.length) h0 (by assumption) (by omega)]; omega
    · (obtain ⟨rfl, rfl, rfl, rfl, rfl, rfl, rfl, rfl, rfl, rfl, rfl, rfl, rfl, rfl, rfl, rfl, rfl, rfl, rfl, rfl, rfl, rfl, rfl, rfl, rfl, rfl⟩ := hO; subst hr; obtain rfl : inR = F0.inR := congrArg Fns.inR hF; obtain rfl : sok = F0.sok := congrArg Fns.sok hF; obtain rfl : sof = F0.sof := congrArg Fns.sof hF; obtain rfl : mkI = F0.mkI := congrArg Fns.mkI hF; obtain rfl : mkS = F0.mkS := congrArg Fns.mkS hF; obtain rfl : nI = F0.nI := congrArg Fns.nI hF; obtain rfl : nS = F0.nS := congrArg Fns.nS hF; clear hF)
      simp only [c_eql_t, c_eql_f, c_neq_t, c_neq_f, c_lss_t, c_lss_f, c_leq_t, c_leq_f, c_gtr_t, c_gtr_f, c_geq_t, c_geq_f, sub_ln, sub_all, bn_t, bn_f, sel_t, sel_f, bq_eql_t, bq_eql_f, bq_neq_t, bq_neq_f, zi_eq, ln_eq, pr_eq, ad_zero] at *
      rw [inc64 (n := es.length) h0 (by assumption) (by omega)]
      have : i < es.length := by assumption
      omega
    · (obtain ⟨rfl, rfl, rfl, rfl, rfl, rfl, rfl, rfl, rfl, rfl, rfl, rfl, rfl, rfl, rfl, rfl, rfl, rfl, rfl, rfl, rfl, rfl, rfl, rfl, rfl, rfl⟩ := hO; subst hr; obtain rfl : inR = F0.inR := congrArg Fns.inR hF; obtain rfl : sok = F0.sok := congrArg Fns.sok hF; obtain rfl : sof = F0.sof := congrArg Fns.sof hF; obtain rfl : mkI = F0.mkI := congrArg Fns.mkI hF; obtain rfl : mkS = F0.mkS := congrArg Fns.mkS hF; obtain rfl : nI = F0.nI := congrArg Fns.nI hF; obtain rfl : nS = F0.nS := congrArg Fns.nS hF; clear hF)
      simp only [c_eql_t, c_eql_f, c_neq_t, c_neq_f, c_lss_t, c_lss_f, c_leq_t, c_leq_f, c_gtr_t, c_gtr_f, c_geq_t, c_geq_f, sub_ln, sub_all, bn_t, bn_f, sel_t, sel_f, bq_eql_t, bq_eql_f, bq_neq_t, bq_neq_f, zi_eq, ln_eq, pr_eq, ad_zero, F0] at *
      rw [inc64 (n := es.length) h0 (by assumption) (by omega)]
      intro j hj
      rcases Nat.lt_or_ge j i.toNat with c | c
      · exact hall j c
      · have e : i = (j : Int) := by omega
        subst e; assumption
    · (obtain ⟨rfl, rfl, rfl, rfl, rfl, rfl, rfl, rfl, rfl, rfl, rfl, rfl, rfl, rfl, rfl, rfl, rfl, rfl, rfl, rfl, rfl, rfl, rfl, rfl, rfl, rfl⟩ := hO; subst hr; obtain rfl : inR = F0.inR := congrArg Fns.inR hF; obtain rfl : sok = F0.sok := congrArg Fns.sok hF; obtain rfl : sof = F0.sof := congrArg Fns.sof hF; obtain rfl : mkI = F0.mkI := congrArg Fns.mkI hF; obtain rfl : mkS = F0.mkS := congrArg Fns.mkS hF; obtain rfl : nI = F0.nI := congrArg Fns.nI hF; obtain rfl : nS = F0.nS := congrArg Fns.nS hF; clear hF)
      simp only [c_eql_t, c_eql_f, c_neq_t, c_neq_f, c_lss_t, c_lss_f, c_leq_t, c_leq_f, c_gtr_t, c_gtr_f, c_geq_t, c_geq_f, sub_ln, sub_all, bn_t, bn_f, sel_t, sel_f, bq_eql_t, bq_eql_f, bq_neq_t, bq_neq_f, zi_eq, ln_eq, pr_eq, ad_zero] at *
      rw [inc64 (n := es.length) h0 (by assumption) (by omega)]
      have : i < es.length := by assumption
      omega
    · have hsz : sizes0 es = true := by
        (obtain ⟨rfl, rfl, rfl, rfl, rfl, rfl, rfl, rfl, rfl, rfl, rfl, rfl, rfl, rfl, rfl, rfl, rfl, rfl, rfl, rfl, rfl, rfl, rfl, rfl, rfl, rfl⟩ := hO; subst hr; obtain rfl : inR = F0.inR := congrArg Fns.inR hF; obtain rfl : sok = F0.sok := congrArg Fns.sok hF; obtain rfl : sof = F0.sof := congrArg Fns.sof hF; obtain rfl : mkI = F0.mkI := congrArg Fns.mkI hF; obtain rfl : mkS = F0.mkS := congrArg Fns.mkS hF; obtain rfl : nI = F0.nI := congrArg Fns.nI hF; obtain rfl : nS = F0.nS := congrArg Fns.nS hF; clear hF)
        simp only [c_eql_t, c_eql_f, c_neq_t, c_neq_f, c_lss_t, c_lss_f, c_leq_t, c_leq_f, c_gtr_t, c_gtr_f, c_geq_t, c_geq_f, sub_ln, sub_all, bn_t, bn_f, sel_t, sel_f, bq_eql_t, bq_eql_f, bq_neq_t, bq_neq_f, zi_eq, ln_eq, pr_eq, ad_zero] at *
        have : (es.length : Int) ≤ i := by assumption
        exact sizes0_of (fun j hj => hall j (by omega))
      have hok : sampleOk0 es every = true := by simp only [sampleOk0, hsz, hev, decide_eq_true hl200, Bool.and_self]
      clear hall h0 h1
      clear hb
      refine ⟨[0, 1, 7, 9, 10, 11], [7], Int × List Rec × Int × Int, fun s => match s with | (i, out, nx, at_) => [.reg 11 (.one (.v (.int .i64 i))), .reg 7 (.one (.vw 7 0 0 0 (ln out))), .leaf 7 0 ⟨0, 0, none, .own (.s 2 out)⟩, .reg 10 (.one (.v (.int .i64 nx))), .reg 9 (.one (.v (.int .i64 at_)))],
        fun s => 0 ≤ s.1 ∧ s.1.toNat ≤ es.length ∧ s.2 = sampRun es every start s.1.toNat, fun s => es.length - s.1.toNat, ⟨(0, [], start, 0), ?_, ?_⟩, ?_⟩
      · exact ⟨by omega, Nat.zero_le _, by simp [sampRun]⟩
      · cbv
      · rintro ⟨i, out, nx, at_⟩ hi
        replace hi : 0 ≤ i ∧ i.toNat ≤ es.length ∧ (out, nx, at_) = sampRun es every start i.toNat := hi
        obtain ⟨h0, h1, hrun⟩ := hi
        obtain ⟨a1, a2, a3, a4, a5, a6⟩ := sampRun_ok hsz ⟨he1, he2⟩ hst2 i.toNat h1
        rw [← hrun] at a1 a2 a3 a4 a5 a6
        simp only at a1 a2 a3 a4 a5 a6
        replace a6 : at_ ≤ 1000 * i := by omega
        cbv
        have hget : i.toNat < es.length → 1 ≤ giI es i 0 ∧ giI es i 0 ≤ 1000 := fun h => sizes0_at hsz h0 (by omega)
        refine caseB_intro (fun hb => ?_) (fun hb => ?_) <;> cbv
        · have hlt : i.toNat < es.length := by
            (obtain ⟨rfl, rfl, rfl, rfl, rfl, rfl, rfl, rfl, rfl, rfl, rfl, rfl, rfl, rfl, rfl, rfl, rfl, rfl, rfl, rfl, rfl, rfl, rfl, rfl, rfl, rfl⟩ := hO; subst hr; obtain rfl : inR = F0.inR := congrArg Fns.inR hF; obtain rfl : sok = F0.sok := congrArg Fns.sok hF; obtain rfl : sof = F0.sof := congrArg Fns.sof hF; obtain rfl : mkI = F0.mkI := congrArg Fns.mkI hF; obtain rfl : mkS = F0.mkS := congrArg Fns.mkS hF; obtain rfl : nI = F0.nI := congrArg Fns.nI hF; obtain rfl : nS = F0.nS := congrArg Fns.nS hF; clear hF)
            simp only [c_eql_t, c_eql_f, c_neq_t, c_neq_f, c_lss_t, c_lss_f, c_leq_t, c_leq_f, c_gtr_t, c_gtr_f, c_geq_t, c_geq_f, sub_ln, sub_all, bn_t, bn_f, sel_t, sel_f, bq_eql_t, bq_eql_f, bq_neq_t, bq_neq_f, zi_eq, ln_eq, pr_eq, ad_zero] at *
            have : i < es.length := by assumption
            omega
          have hs := hget hlt
          refine ⟨[0, 1, 7, 9, 10, 11, 12], [7], Int × Int, fun s => match s with | (x, n) => [.reg 10 (.one (.v (.int .i64 x))), .reg 12 (.one (.v (.int .i64 n)))],
            fun s => 0 ≤ s.2 ∧ s.2 ≤ s.1 ∧ s.1 ≤ at_ + giI es i 0 + 1000 ∧ innerN every (at_ + giI es i 0) s.1 s.2 = innerN every (at_ + giI es i 0) nx 0, fun s => (at_ + giI es i 0 - s.1).toNat, ⟨(nx, 0), ?_, ?_⟩, ?_⟩
          · exact ⟨by omega, a3, by simp only; omega, rfl⟩
          · cbv
          · rintro ⟨x, n⟩ hi
            replace hi : 0 ≤ n ∧ n ≤ x ∧ x ≤ at_ + giI es i 0 + 1000 ∧ innerN every (at_ + giI es i 0) x n = innerN every (at_ + giI es i 0) nx 0 := hi
            obtain ⟨b0, b1, b2, b3⟩ := hi
            have hadd : arI .add .i64 at_ (giI es i 0) = at_ + giI es i 0 := add64 (by omega)
            have hadd2 : arI .add .i64 x every = x + every := add64 (by omega)
            have hadd3 : arI .add .i64 n 1 = n + 1 := add64 (by omega)
            have hadd4 : arI .add .i64 i 1 = i + 1 := add64 (by omega)
            have hmul : arI .mul .i64 n every = n * every := IntWalk.i64_in _ (by
              have h1 : n * every ≤ 401000 * 1000 := Int.mul_le_mul (by omega) he2 (by omega) (by omega)
              have h2 : 0 ≤ n * every := Int.mul_nonneg b0 (by omega)
              omega)
            have hstep : (i.toNat + 1 ≤ es.length) → sampRun es every start (i.toNat + 1) = sampStep every (out, nx, at_) (es.getD i.toNat []) := fun h => by rw [sampRun_succ (by omega), ← hrun]
            have hro : 0 ≤ i ∧ i < (es.length : Int) ∧ es.getD i.toNat [] = etaE stdO es i 0 zI := row_ro hw h0 (by omega)
            cbv
            repeat' first | refine And.intro ?_ ?_ | (refine caseB_intro (fun hb => ?_) (fun hb => ?_) <;> cbv) | (refine loop_step (ar .add .i64 x every, ar .add .i64 n 1) ?_ ?_ ?_; rotate_left 2; focus (cbv; done) ) | ( refine loop_step (ar .add .i64 i 1, cat out (sub [[.v (.int .i64 (gi es i 0)), .v (.int .i64 (ar .mul .i64 n every))]] 0 (ln [[.v (.int .i64 (gi es i 0)), .v (.int .i64 (ar .mul .i64 n every))]])), x, ar .add .i64 at_ (gi es i 0)) ?_ ?_ ?_; rotate_left 2; focus (cbv; done) ) | ( refine loop_step (ar .add .i64 i 1, out, x, ar .add .i64 at_ (gi es i 0)) ?_ ?_ ?_; rotate_left 2; focus (cbv; done))
            all_goals (obtain ⟨rfl, rfl, rfl, rfl, rfl, rfl, rfl, rfl, rfl, rfl, rfl, rfl, rfl, rfl, rfl, rfl, rfl, rfl, rfl, rfl, rfl, rfl, rfl, rfl, rfl, rfl⟩ := hO; subst hr; obtain rfl : inR = F0.inR := congrArg Fns.inR hF; obtain rfl : sok = F0.sok := congrArg Fns.sok hF; obtain rfl : sof = F0.sof := congrArg Fns.sof hF; obtain rfl : mkI = F0.mkI := congrArg Fns.mkI hF; obtain rfl : mkS = F0.mkS := congrArg Fns.mkS hF; obtain rfl : nI = F0.nI := congrArg Fns.nI hF; obtain rfl : nS = F0.nS := congrArg Fns.nS hF; clear hF)
            all_goals first | exact hro | exact trivial | exact ⟨rfl, rfl⟩ | skip
            all_goals simp only [c_eql_t, c_eql_f, c_neq_t, c_neq_f, c_lss_t, c_lss_f, c_leq_t, c_leq_f, c_gtr_t, c_gtr_f, c_geq_t, c_geq_f, sub_ln, sub_all, bn_t, bn_f, sel_t, sel_f, bq_eql_t, bq_eql_f, bq_neq_t, bq_neq_f, zi_eq, ln_eq, pr_eq, ad_zero, hadd, hadd2, hadd3, hadd4, hmul] at *
            · omega
            · omega
            · omega
            · rw [← innerN_step he1 (by assumption)]; exact b3
            · omega
            · simp [scalRecs, scalRec]
            · simp only [List.length_cons, List.length_nil]; omega
            · omega
            · omega
            · rw [show (i + 1).toNat = i.toNat + 1 from by omega, hstep (by omega)]
              rw [innerN_done (by assumption)] at b3
              simp only [sampStep]
              rw [show lfI ((es.getD i.toNat []).getD 0 .g) = giI es i 0 from rfl, ← b3]
              simp only
              rw [if_pos (by assumption)]; rfl
            · omega
            · omega
            · omega
            · rw [show (i + 1).toNat = i.toNat + 1 from by omega, hstep (by omega)]
              rw [innerN_done (by assumption)] at b3
              simp only [sampStep]
              rw [show lfI ((es.getD i.toNat []).getD 0 .g) = giI es i 0 from rfl, ← b3]
              simp only
              rw [if_neg (show ¬ n > 0 by omega)]
            · omega
        · refine And.intro ?_ (And.intro ?_ trivial)
          · (obtain ⟨rfl, rfl, rfl, rfl, rfl, rfl, rfl, rfl, rfl, rfl, rfl, rfl, rfl, rfl, rfl, rfl, rfl, rfl, rfl, rfl, rfl, rfl, rfl, rfl, rfl, rfl⟩ := hO; subst hr; obtain rfl : inR = F0.inR := congrArg Fns.inR hF; obtain rfl : sok = F0.sok := congrArg Fns.sok hF; obtain rfl : sof = F0.sof := congrArg Fns.sof hF; obtain rfl : mkI = F0.mkI := congrArg Fns.mkI hF; obtain rfl : mkS = F0.mkS := congrArg Fns.mkS hF; obtain rfl : nI = F0.nI := congrArg Fns.nI hF; obtain rfl : nS = F0.nS := congrArg Fns.nS hF; clear hF)
            exact ⟨rfl, rfl⟩
          · (obtain ⟨rfl, rfl, rfl, rfl, rfl, rfl, rfl, rfl, rfl, rfl, rfl, rfl, rfl, rfl, rfl, rfl, rfl, rfl, rfl, rfl, rfl, rfl, rfl, rfl, rfl, rfl⟩ := hO; subst hr; obtain rfl : inR = F0.inR := congrArg Fns.inR hF; obtain rfl : sok = F0.sok := congrArg Fns.sok hF; obtain rfl : sof = F0.sof := congrArg Fns.sof hF; obtain rfl : mkI = F0.mkI := congrArg Fns.mkI hF; obtain rfl : mkS = F0.mkS := congrArg Fns.mkS hF; obtain rfl : nI = F0.nI := congrArg Fns.nI hF; obtain rfl : nS = F0.nS := congrArg Fns.nS hF; clear hF)
            simp only [c_eql_t, c_eql_f, c_neq_t, c_neq_f, c_lss_t, c_lss_f, c_leq_t, c_leq_f, c_gtr_t, c_gtr_f, c_geq_t, c_geq_f, sub_ln, sub_all, bn_t, bn_f, sel_t, sel_f, bq_eql_t, bq_eql_f, bq_neq_t, bq_neq_f, zi_eq, ln_eq, pr_eq, ad_zero, F0] at *
            have : i.toNat = es.length := by
              have : (es.length : Int) ≤ i := by assumption
              omega
            rw [this] at hrun
            simp only [sampleOf0, hok, hst, Bool.and_true, if_true, ← hrun]
abbrev smp (a b : Int) : DV := .agg [.v (.int .i64 a), .v (.int .i64 b)]
theorem ctr41 (a b : Int) : Ctr Try.prog 41 [smp a b, smp a b] [db true] := by
  refine ctr_of_vwpO (ctF := noC) (F0 := F0) tabOk noC_ok mixed 15 _ [4] [.tmp 4] Try.func41 rfl rfl rfl rfl rfl ?_
  intro pr ar sh cmp wr bq bn sel mm ln zi nn ad df cat sub rep gi gb gt gs pi pb pt ps up r F hO hr hF
  obtain ⟨inR, sok, sof, mkI, mkS, nI, nS⟩ := F
  cbv
  repeat' first | refine And.intro ?_ ?_ | (refine caseB_intro (fun hb => ?_) (fun hb => ?_) <;> cbv)
  all_goals (obtain ⟨rfl, rfl, rfl, rfl, rfl, rfl, rfl, rfl, rfl, rfl, rfl, rfl, rfl, rfl, rfl, rfl, rfl, rfl, rfl, rfl, rfl, rfl, rfl, rfl, rfl, rfl⟩ := hO; subst hr; obtain rfl : inR = F0.inR := congrArg Fns.inR hF; obtain rfl : sok = F0.sok := congrArg Fns.sok hF; obtain rfl : sof = F0.sof := congrArg Fns.sof hF; obtain rfl : mkI = F0.mkI := congrArg Fns.mkI hF; obtain rfl : mkS = F0.mkS := congrArg Fns.mkS hF; obtain rfl : nI = F0.nI := congrArg Fns.nI hF; obtain rfl : nS = F0.nS := congrArg Fns.nS hF; clear hF)
  all_goals first | trivial | (simp [cmpI] at hb; done) | exact rfl
def ctq (_ : Fns) : CT := fun f ds => match f, ds with
  | 41, [.agg [.v (.int .i64 a), .v (.int .i64 b)], d] => some (fun _ => d = smp a b, [db true])
  | _, _ => none
theorem ctq_ok : CTok Try.prog (ctq F0) := by
  intro f ds pre res h hp
  unfold ctq at h
  split at h
  · cases h; rw [show _ = _ from hp]; exact ctr41 _ _
  · cases h
theorem ctr19 (es : List Rec) (hw : Wf zS es) (hlen : es.length ≤ 1048576) : Ctr Try.prog 19 [row es, row es] [db true] := by
  refine ctr_of_vwpO tabOk ctq_ok mixed 27 _ [4] [.tmp 4] Try.func19 rfl rfl rfl rfl rfl ?_
  intro pr ar sh cmp wr bq bn sel mm ln zi nn ad df cat sub rep gi gb gt gs pi pb pt ps up r F hO hr hF
  obtain ⟨inR, sok, sof, mkI, mkS, nI, nS⟩ := F
  cbv
  refine caseB_intro (fun hb => ?_) (fun hb => ?_) <;> cbv
  · (obtain ⟨rfl, rfl, rfl, rfl, rfl, rfl, rfl, rfl, rfl, rfl, rfl, rfl, rfl, rfl, rfl, rfl, rfl, rfl, rfl, rfl, rfl, rfl, rfl, rfl, rfl, rfl⟩ := hO; subst hr; obtain rfl : inR = F0.inR := congrArg Fns.inR hF; obtain rfl : sok = F0.sok := congrArg Fns.sok hF; obtain rfl : sof = F0.sof := congrArg Fns.sof hF; obtain rfl : mkI = F0.mkI := congrArg Fns.mkI hF; obtain rfl : mkS = F0.mkS := congrArg Fns.mkS hF; obtain rfl : nI = F0.nI := congrArg Fns.nI hF; obtain rfl : nS = F0.nS := congrArg Fns.nS hF; clear hF)
    simp only [c_eql_t, c_eql_f, c_neq_t, c_neq_f, c_lss_t, c_lss_f, c_leq_t, c_leq_f, c_gtr_t, c_gtr_f, c_geq_t, c_geq_f, sub_ln, sub_all, bn_t, bn_f, sel_t, sel_f, bq_eql_t, bq_eql_f, bq_neq_t, bq_neq_f, zi_eq, ln_eq, pr_eq, ad_zero] at hb; exact absurd rfl hb
  · clear hb
    refine ⟨[0, 1, 5], [], Int, fun i => [.reg 5 (.one (.v (.int .i64 i)))], fun i => 0 ≤ i ∧ i.toNat ≤ es.length, fun i => es.length - i.toNat, ⟨0, ?_, ?_⟩, ?_⟩
    · exact ⟨by omega, Nat.zero_le _⟩
    · cbv
    · rintro i hi
      replace hi : 0 ≤ i ∧ i.toNat ≤ es.length := hi
      obtain ⟨h0, h1⟩ := hi
      cbv
      repeat' first | refine And.intro ?_ ?_ | (refine caseB_intro (fun hb => ?_) (fun hb => ?_) <;> cbv) | (refine loop_step (ar .add .i64 i 1) ?_ ?_ (by cbv))
      all_goals (obtain ⟨rfl, rfl, rfl, rfl, rfl, rfl, rfl, rfl, rfl, rfl, rfl, rfl, rfl, rfl, rfl, rfl, rfl, rfl, rfl, rfl, rfl, rfl, rfl, rfl, rfl, rfl⟩ := hO; subst hr; obtain rfl : inR = F0.inR := congrArg Fns.inR hF; obtain rfl : sok = F0.sok := congrArg Fns.sok hF; obtain rfl : sof = F0.sof := congrArg Fns.sof hF; obtain rfl : mkI = F0.mkI := congrArg Fns.mkI hF; obtain rfl : mkS = F0.mkS := congrArg Fns.mkS hF; obtain rfl : nI = F0.nI := congrArg Fns.nI hF; obtain rfl : nS = F0.nS := congrArg Fns.nS hF; clear hF)
      all_goals simp only [c_eql_t, c_eql_f, c_neq_t, c_neq_f, c_lss_t, c_lss_f, c_leq_t, c_leq_f, c_gtr_t, c_gtr_f, c_geq_t, c_geq_f, sub_ln, sub_all, bn_t, bn_f, sel_t, sel_f, bq_eql_t, bq_eql_f, bq_neq_t, bq_neq_f, zi_eq, ln_eq, pr_eq, ad_zero] at *
      · exact row_ro hw h0 hb
      · exact row_ro hw h0 hb
      · kernel_rfl
      · rename_i hx; exact absurd hx (by decide)
      all_goals try rw [inc64 h0 hb (by omega)]
      · omega
      · omega
      · omega
end Go.V
