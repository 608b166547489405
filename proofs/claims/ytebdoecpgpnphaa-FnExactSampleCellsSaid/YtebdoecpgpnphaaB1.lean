/-
  Contracts of functions of the program, by evaluation of conditions on their code.
-/
import Derived.Test.YtebdoecpgpnphaaS1
import Derived.Test.YtebdoecpgpnphaaV31
set_option linter.all false

namespace Go.V
open Go Go.Proofs
set_option maxRecDepth 1000000
set_option maxHeartbeats 1000000
abbrev zS : Rec := [.v (.int .i64 0), .v (.int .i64 0)]
structure Fns where
  szS : List Rec → Int → Int
  largest : List Rec → Int
  cells : List Rec → Int
def largest0 (es : List Rec) : Int := es.foldl (fun m e => mmI true m (lfI (e.getD 0 .g))) 0
def cells0 (es : List Rec) : Int := es.foldl (fun m e => arI .add .i64 m (lfI (e.getD 1 .g))) 0
def F0 : Fns where
  szS := fun es left => if arI .sub .i64 left es.length < 0 then -1 else arI .sub .i64 left es.length
  largest := largest0
  cells := cells0
def ctE (_ : Fns) : CT := fun _ _ => none
theorem ctE_ok : CTok Try.prog (ctE F0) := by intro f ds pre res h; cases h
abbrev smp (a b : Int) : DV := .agg [.v (.int .i64 a), .v (.int .i64 b)]
abbrev row (es : List Rec) : DV := .one (.s 2 es)

theorem ctr12 (es : List Rec) (left : Int) : Ctr Try.prog 12 [row es, di left] [di (F0.szS es left)] := by
  refine ctr_of_vwpO tabOk ctE_ok mixed 12 _ [3] [.tmp 4] Try.func12 rfl rfl rfl rfl rfl ?_
  intro pr ar sh cmp wr bq bn sel mm ln zi nn ad df cat sub rep gi gb gt gs pi pb pt ps up r F hO hr hF
  obtain ⟨szS, largest, cells⟩ := F
  cbv
  repeat' first | refine And.intro ?_ ?_ | (refine caseB_intro (fun hb => ?_) (fun hb => ?_) <;> cbv)
  all_goals (obtain ⟨rfl, rfl, rfl, rfl, rfl, rfl, rfl, rfl, rfl, rfl, rfl, rfl, rfl, rfl, rfl, rfl, rfl, rfl, rfl, rfl, rfl, rfl, rfl, rfl, rfl, rfl⟩ := hO; subst hr; obtain rfl : szS = F0.szS := congrArg Fns.szS hF; obtain rfl : largest = F0.largest := congrArg Fns.largest hF; obtain rfl : cells = F0.cells := congrArg Fns.cells hF; clear hF)
  all_goals simp only [c_eql_t, c_eql_f, c_neq_t, c_neq_f, c_lss_t, c_lss_f, c_leq_t, c_leq_f, c_gtr_t, c_gtr_f, c_geq_t, c_geq_f, sub_ln, sub_all, bn_t, bn_f, sel_t, sel_f, bq_eql_t, bq_eql_f, bq_neq_t, bq_neq_f, zi_eq, ln_eq, pr_eq, ad_zero] at *
  all_goals simp only [F0]
  · rw [if_pos hb]
  · rw [if_neg (show ¬ arI .sub .i64 left es.length < 0 by omega)]
theorem ctr31 (a b : Int) : Ctr Try.prog 31 [smp a b] [smp a b] := by
  refine ctr_of_vwpO tabOk ctE_ok mixed 11 _ [41] [.cell 2 41] Try.func31 rfl rfl rfl rfl rfl ?_
  intro pr ar sh cmp wr bq bn sel mm ln zi nn ad df cat sub rep gi gb gt gs pi pb pt ps up r F hO hr hF
  obtain ⟨szS, largest, cells⟩ := F
  cbv
  repeat' first | refine And.intro ?_ ?_ | (refine caseB_intro (fun hb => ?_) (fun hb => ?_) <;> cbv)
  all_goals (obtain ⟨rfl, rfl, rfl, rfl, rfl, rfl, rfl, rfl, rfl, rfl, rfl, rfl, rfl, rfl, rfl, rfl, rfl, rfl, rfl, rfl, rfl, rfl, rfl, rfl, rfl, rfl⟩ := hO; subst hr; obtain rfl : szS = F0.szS := congrArg Fns.szS hF; obtain rfl : largest = F0.largest := congrArg Fns.largest hF; obtain rfl : cells = F0.cells := congrArg Fns.cells hF; clear hF)
  · exact rfl
  · trivial
theorem ctr32 (a b : Int) : Ctr Try.prog 32 [smp a b, smp a b] [db true] := by
  refine ctr_of_vwpO tabOk ctE_ok mixed 15 _ [4] [.tmp 4] Try.func32 rfl rfl rfl rfl rfl ?_
  intro pr ar sh cmp wr bq bn sel mm ln zi nn ad df cat sub rep gi gb gt gs pi pb pt ps up r F hO hr hF
  obtain ⟨szS, largest, cells⟩ := F
  cbv
  repeat' first | refine And.intro ?_ ?_ | (refine caseB_intro (fun hb => ?_) (fun hb => ?_) <;> cbv)
  all_goals (obtain ⟨rfl, rfl, rfl, rfl, rfl, rfl, rfl, rfl, rfl, rfl, rfl, rfl, rfl, rfl, rfl, rfl, rfl, rfl, rfl, rfl, rfl, rfl, rfl, rfl, rfl, rfl⟩ := hO; subst hr; obtain rfl : szS = F0.szS := congrArg Fns.szS hF; obtain rfl : largest = F0.largest := congrArg Fns.largest hF; obtain rfl : cells = F0.cells := congrArg Fns.cells hF; clear hF)
  all_goals first | trivial | (simp [cmpI] at hb; done) | exact rfl
def ct1 (_ : Fns) : CT := fun f ds => match f, ds with
  | 31, [.agg [.v (.int .i64 a), .v (.int .i64 b)]] => some (fun _ => True, [.agg [.v (.int .i64 a), .v (.int .i64 b)]])
  | 32, [.agg [.v (.int .i64 a), .v (.int .i64 b)], d] => some (fun _ => d = smp a b, [db true])
  | _, _ => none
theorem ct1_ok : CTok Try.prog (ct1 F0) := by
  intro f ds pre res h hp
  unfold ct1 at h
  split at h
  · cases h; exact ctr31 _ _
  · cases h; rw [show _ = _ from hp]; exact ctr32 _ _
  · cases h
theorem ctr13 (es : List Rec) (hw : Wf zS es) (hlen : es.length ≤ 1048576) : Ctr Try.prog 13 [row es] [di (F0.largest es)] := by
  refine ctr_of_vwpO tabOk ctE_ok mixed 19 _ [3] [.tmp 2] Try.func13 rfl rfl rfl rfl rfl ?_
  intro pr ar sh cmp wr bq bn sel mm ln zi nn ad df cat sub rep gi gb gt gs pi pb pt ps up r F hO hr hF
  obtain ⟨szS, largest, cells⟩ := F
  cbv
  refine ⟨[0, 3, 4], [], Int × Int, fun s => [.reg 4 (.one (.v (.int .i64 s.1))), .reg 3 (.one (.v (.int .i64 s.2)))], fun s => 0 ≤ s.1 ∧ s.1.toNat ≤ es.length ∧ s.2 = largest0 (es.take s.1.toNat), fun s => es.length - s.1.toNat, ⟨(0, 0), ?_, ?_⟩, ?_⟩
  · exact ⟨by omega, Nat.zero_le _, by simp [largest0]⟩
  · cbv
  · rintro ⟨i, m⟩ hi
    replace hi : 0 ≤ i ∧ i.toNat ≤ es.length ∧ m = largest0 (es.take i.toNat) := hi
    obtain ⟨h0, h1, hm⟩ := hi
    cbv
    repeat' first | refine And.intro ?_ ?_ | (refine caseB_intro (fun hb => ?_) (fun hb => ?_) <;> cbv) | (refine loop_step (ar .add .i64 i 1, mm true m (gi es i 0)) ?_ ?_ (by cbv))
    all_goals (obtain ⟨rfl, rfl, rfl, rfl, rfl, rfl, rfl, rfl, rfl, rfl, rfl, rfl, rfl, rfl, rfl, rfl, rfl, rfl, rfl, rfl, rfl, rfl, rfl, rfl, rfl, rfl⟩ := hO; subst hr; obtain rfl : szS = F0.szS := congrArg Fns.szS hF; obtain rfl : largest = F0.largest := congrArg Fns.largest hF; obtain rfl : cells = F0.cells := congrArg Fns.cells hF; clear hF)
    all_goals simp only [c_eql_t, c_eql_f, c_neq_t, c_neq_f, c_lss_t, c_lss_f, c_leq_t, c_leq_f, c_gtr_t, c_gtr_f, c_geq_t, c_geq_f, sub_ln, sub_all, bn_t, bn_f, sel_t, sel_f, bq_eql_t, bq_eql_f, bq_neq_t, bq_neq_f, zi_eq, ln_eq, pr_eq, ad_zero] at *
    · exact row_ro hw h0 hb
    all_goals try rw [inc64 h0 hb (by omega)]
    · omega
    · omega
    · rw [show (i + 1).toNat = i.toNat + 1 from by omega]
      unfold largest0
      rw [foldl_take_succ (d := []) (by omega), hm]; rfl
    · omega
    · rw [hm, List.take_of_length_le (by omega)]; rfl
theorem ctr15 (es : List Rec) (hw : Wf zS es) (hlen : es.length ≤ 1048576) : Ctr Try.prog 15 [row es] [di (F0.largest es)] := by
  refine ctr_of_vwpO tabOk ctE_ok mixed 18 _ [3] [.tmp 2] Try.func15 rfl rfl rfl rfl rfl ?_
  intro pr ar sh cmp wr bq bn sel mm ln zi nn ad df cat sub rep gi gb gt gs pi pb pt ps up r F hO hr hF
  obtain ⟨szS, largest, cells⟩ := F
  cbv
  refine ⟨[3, 6, 7, 8], [], Int × Int, fun s => [.reg 8 (.one (.v (.int .i64 s.1))), .reg 3 (.one (.v (.int .i64 s.2)))], fun s => 0 ≤ s.1 ∧ s.1.toNat ≤ es.length ∧ s.2 = largest0 (es.take s.1.toNat), fun s => es.length - s.1.toNat, ⟨(0, 0), ?_, ?_⟩, ?_⟩
  · exact ⟨by omega, Nat.zero_le _, by simp [largest0]⟩
  · cbv
  · rintro ⟨i, m⟩ hi
    replace hi : 0 ≤ i ∧ i.toNat ≤ es.length ∧ m = largest0 (es.take i.toNat) := hi
    obtain ⟨h0, h1, hm⟩ := hi
    cbv
    repeat' first | refine And.intro ?_ ?_ | (refine caseB_intro (fun hb => ?_) (fun hb => ?_) <;> cbv) | (refine loop_step (ar .add .i64 i 1, mm true m (gi es i 0)) ?_ ?_ (by cbv))
    all_goals (obtain ⟨rfl, rfl, rfl, rfl, rfl, rfl, rfl, rfl, rfl, rfl, rfl, rfl, rfl, rfl, rfl, rfl, rfl, rfl, rfl, rfl, rfl, rfl, rfl, rfl, rfl, rfl⟩ := hO; subst hr; obtain rfl : szS = F0.szS := congrArg Fns.szS hF; obtain rfl : largest = F0.largest := congrArg Fns.largest hF; obtain rfl : cells = F0.cells := congrArg Fns.cells hF; clear hF)
    all_goals simp only [c_eql_t, c_eql_f, c_neq_t, c_neq_f, c_lss_t, c_lss_f, c_leq_t, c_leq_f, c_gtr_t, c_gtr_f, c_geq_t, c_geq_f, sub_ln, sub_all, bn_t, bn_f, sel_t, sel_f, bq_eql_t, bq_eql_f, bq_neq_t, bq_neq_f, zi_eq, ln_eq, pr_eq, ad_zero] at *
    · exact row_ro hw h0 hb
    all_goals try rw [inc64 h0 hb (by omega)]
    · omega
    · omega
    · rw [show (i + 1).toNat = i.toNat + 1 from by omega]
      unfold largest0
      rw [foldl_take_succ (d := []) (by omega), hm]; rfl
    · omega
    · rw [hm, List.take_of_length_le (by omega)]; rfl
theorem ctr17 (es : List Rec) (hw : Wf zS es) (hlen : es.length ≤ 1048576) : Ctr Try.prog 17 [row es] [di (F0.cells es)] := by
  refine ctr_of_vwpO tabOk ctE_ok mixed 19 _ [3] [.tmp 2] Try.func17 rfl rfl rfl rfl rfl ?_
  intro pr ar sh cmp wr bq bn sel mm ln zi nn ad df cat sub rep gi gb gt gs pi pb pt ps up r F hO hr hF
  obtain ⟨szS, largest, cells⟩ := F
  cbv
  refine ⟨[0, 3, 4], [], Int × Int, fun s => [.reg 4 (.one (.v (.int .i64 s.1))), .reg 3 (.one (.v (.int .i64 s.2)))], fun s => 0 ≤ s.1 ∧ s.1.toNat ≤ es.length ∧ s.2 = cells0 (es.take s.1.toNat), fun s => es.length - s.1.toNat, ⟨(0, 0), ?_, ?_⟩, ?_⟩
  · exact ⟨by omega, Nat.zero_le _, by simp [cells0]⟩
  · cbv
  · rintro ⟨i, m⟩ hi
    replace hi : 0 ≤ i ∧ i.toNat ≤ es.length ∧ m = cells0 (es.take i.toNat) := hi
    obtain ⟨h0, h1, hm⟩ := hi
    cbv
    repeat' first | refine And.intro ?_ ?_ | (refine caseB_intro (fun hb => ?_) (fun hb => ?_) <;> cbv) | (refine loop_step (ar .add .i64 i 1, ar .add .i64 m (gi es i 1)) ?_ ?_ (by cbv))
    all_goals (obtain ⟨rfl, rfl, rfl, rfl, rfl, rfl, rfl, rfl, rfl, rfl, rfl, rfl, rfl, rfl, rfl, rfl, rfl, rfl, rfl, rfl, rfl, rfl, rfl, rfl, rfl, rfl⟩ := hO; subst hr; obtain rfl : szS = F0.szS := congrArg Fns.szS hF; obtain rfl : largest = F0.largest := congrArg Fns.largest hF; obtain rfl : cells = F0.cells := congrArg Fns.cells hF; clear hF)
    all_goals simp only [c_eql_t, c_eql_f, c_neq_t, c_neq_f, c_lss_t, c_lss_f, c_leq_t, c_leq_f, c_gtr_t, c_gtr_f, c_geq_t, c_geq_f, sub_ln, sub_all, bn_t, bn_f, sel_t, sel_f, bq_eql_t, bq_eql_f, bq_neq_t, bq_neq_f, zi_eq, ln_eq, pr_eq, ad_zero] at *
    · exact row_ro hw h0 hb
    all_goals try rw [inc64 h0 hb (by omega)]
    · omega
    · omega
    · rw [show (i + 1).toNat = i.toNat + 1 from by omega]
      unfold cells0
      rw [foldl_take_succ (d := []) (by omega), hm]; rfl
    · omega
    · rw [hm, List.take_of_length_le (by omega)]; rfl
theorem ctr18 (es : List Rec) (hw : Wf zS es) (hlen : es.length ≤ 1048576) : Ctr Try.prog 18 [row es] [di (F0.cells es)] := by
  refine ctr_of_vwpO tabOk ctE_ok mixed 18 _ [3] [.tmp 2] Try.func18 rfl rfl rfl rfl rfl ?_
  intro pr ar sh cmp wr bq bn sel mm ln zi nn ad df cat sub rep gi gb gt gs pi pb pt ps up r F hO hr hF
  obtain ⟨szS, largest, cells⟩ := F
  cbv
  refine ⟨[3, 6, 7, 8], [], Int × Int, fun s => [.reg 8 (.one (.v (.int .i64 s.1))), .reg 3 (.one (.v (.int .i64 s.2)))], fun s => 0 ≤ s.1 ∧ s.1.toNat ≤ es.length ∧ s.2 = cells0 (es.take s.1.toNat), fun s => es.length - s.1.toNat, ⟨(0, 0), ?_, ?_⟩, ?_⟩
  · exact ⟨by omega, Nat.zero_le _, by simp [cells0]⟩
  · cbv
  · rintro ⟨i, m⟩ hi
    replace hi : 0 ≤ i ∧ i.toNat ≤ es.length ∧ m = cells0 (es.take i.toNat) := hi
    obtain ⟨h0, h1, hm⟩ := hi
    cbv
    repeat' first | refine And.intro ?_ ?_ | (refine caseB_intro (fun hb => ?_) (fun hb => ?_) <;> cbv) | (refine loop_step (ar .add .i64 i 1, ar .add .i64 m (gi es i 1)) ?_ ?_ (by cbv))
    all_goals (obtain ⟨rfl, rfl, rfl, rfl, rfl, rfl, rfl, rfl, rfl, rfl, rfl, rfl, rfl, rfl, rfl, rfl, rfl, rfl, rfl, rfl, rfl, rfl, rfl, rfl, rfl, rfl⟩ := hO; subst hr; obtain rfl : szS = F0.szS := congrArg Fns.szS hF; obtain rfl : largest = F0.largest := congrArg Fns.largest hF; obtain rfl : cells = F0.cells := congrArg Fns.cells hF; clear hF)
    all_goals simp only [c_eql_t, c_eql_f, c_neq_t, c_neq_f, c_lss_t, c_lss_f, c_leq_t, c_leq_f, c_gtr_t, c_gtr_f, c_geq_t, c_geq_f, sub_ln, sub_all, bn_t, bn_f, sel_t, sel_f, bq_eql_t, bq_eql_f, bq_neq_t, bq_neq_f, zi_eq, ln_eq, pr_eq, ad_zero] at *
    · exact row_ro hw h0 hb
    all_goals try rw [inc64 h0 hb (by omega)]
    · omega
    · omega
    · rw [show (i + 1).toNat = i.toNat + 1 from by omega]
      unfold cells0
      rw [foldl_take_succ (d := []) (by omega), hm]; rfl
    · omega
    · rw [hm, List.take_of_length_le (by omega)]; rfl
theorem ctr14 (es : List Rec) (hw : Wf zS es) (hlen : es.length ≤ 1048576) : Ctr Try.prog 14 [row es] [row es] := by
  refine ctr_of_vwpO tabOk ct1_ok mixed 23 _ [31] [.tmp 2] Try.func14 rfl rfl rfl rfl rfl ?_
  intro pr ar sh cmp wr bq bn sel mm ln zi nn ad df cat sub rep gi gb gt gs pi pb pt ps up r F hO hr hF
  obtain ⟨szS, largest, cells⟩ := F
  cbv
  have h0z : fillR es zS 0 = rep (zi (ln es)) zS := by
    obtain ⟨rfl, rfl, rfl, rfl, rfl, rfl, rfl, rfl, rfl, rfl, rfl, rfl, rfl, rfl, rfl, rfl, rfl, rfl, rfl, rfl, rfl, rfl, rfl, rfl, rfl, rfl⟩ := hO
    rw [fillR_zero]; rfl
  refine ⟨?_, ?_, [0, 3, 4], [3], Int × List Rec, fun s => [.reg 4 (.one (.v (.int .i64 s.1))), .leaf 3 0 ⟨0, 0, none, .own (.s 2 s.2)⟩], fun s => 0 ≤ s.1 ∧ s.1.toNat ≤ es.length ∧ s.2 = fillR es zS s.1.toNat, fun s => es.length - s.1.toNat, ⟨(0, rep (zi (ln es)) zS), ?_, ?_⟩, ?_⟩
  · obtain ⟨rfl, rfl, rfl, rfl, rfl, rfl, rfl, rfl, rfl, rfl, rfl, rfl, rfl, rfl, rfl, rfl, rfl, rfl, rfl, rfl, rfl, rfl, rfl, rfl, rfl, rfl⟩ := hO
    exact mk_ok (b := 16) (by rw [ln_eq]; omega) (by rw [ln_eq]; omega)
  · obtain ⟨rfl, rfl, rfl, rfl, rfl, rfl, rfl, rfl, rfl, rfl, rfl, rfl, rfl, rfl, rfl, rfl, rfl, rfl, rfl, rfl, rfl, rfl, rfl, rfl, rfl, rfl⟩ := hO
    exact ⟨rfl, rfl⟩
  · exact ⟨by omega, Nat.zero_le _, h0z.symm⟩
  · cbv
  · rintro ⟨i, m⟩ hi
    replace hi : 0 ≤ i ∧ i.toNat ≤ es.length ∧ m = fillR es zS i.toNat := hi
    obtain ⟨h0, h1, hm⟩ := hi
    cbv
    repeat' first | refine And.intro ?_ ?_ | (refine caseB_intro (fun hb => ?_) (fun hb => ?_) <;> cbv) | (refine loop_step (ar .add .i64 i 1, up (.s 2 m) [(ad 0 i, 0)] [.v (.int .i64 (gi es i 0)), .v (.int .i64 (gi es i 1))]) ?_ ?_ (by cbv))
    all_goals (obtain ⟨rfl, rfl, rfl, rfl, rfl, rfl, rfl, rfl, rfl, rfl, rfl, rfl, rfl, rfl, rfl, rfl, rfl, rfl, rfl, rfl, rfl, rfl, rfl, rfl, rfl, rfl⟩ := hO; subst hr; obtain rfl : szS = F0.szS := congrArg Fns.szS hF; obtain rfl : largest = F0.largest := congrArg Fns.largest hF; obtain rfl : cells = F0.cells := congrArg Fns.cells hF; clear hF)
    all_goals simp only [c_eql_t, c_eql_f, c_neq_t, c_neq_f, c_lss_t, c_lss_f, c_leq_t, c_leq_f, c_gtr_t, c_gtr_f, c_geq_t, c_geq_f, sub_ln, sub_all, bn_t, bn_f, sel_t, sel_f, bq_eql_t, bq_eql_f, bq_neq_t, bq_neq_f, zi_eq, ln_eq, pr_eq, ad_zero] at *
    · exact row_ro hw h0 hb
    · simp only [repI, List.length_replicate, Int.toNat_natCast]; exact ⟨h0, hb⟩
    · rw [hm]; exact getR_some (by rw [fillR_length h1]; omega) (by rw [fillR_getD (by omega)]; exact Nat.le_refl _)
    all_goals try rw [inc64 h0 hb (by omega)]
    · omega
    · omega
    · rw [show (i + 1).toNat = i.toNat + 1 from by omega, ← fillR_set (by omega), ← hm, upI_one (by rw [hm, fillR_getD (by omega)]; rfl), ← etaE_whole hw h0 hb]
      rfl
    · omega
    · simp only [repI, List.length_replicate, Int.toNat_natCast]
      rw [hm, fillR_length h1]; exact ⟨trivial, rfl⟩
    · rw [hm, show i.toNat = es.length from by omega, fillR_all]
theorem ctr16 (es : List Rec) (hw : Wf zS es) (hlen : es.length ≤ 1048576) : Ctr Try.prog 16 [row es, row es] [db true] := by
  refine ctr_of_vwpO tabOk ct1_ok mixed 27 _ [4] [.tmp 4] Try.func16 rfl rfl rfl rfl rfl ?_
  intro pr ar sh cmp wr bq bn sel mm ln zi nn ad df cat sub rep gi gb gt gs pi pb pt ps up r F hO hr hF
  obtain ⟨szS, largest, cells⟩ := F
  cbv
  refine caseB_intro (fun hb => ?_) (fun hb => ?_) <;> cbv
  · (obtain ⟨rfl, rfl, rfl, rfl, rfl, rfl, rfl, rfl, rfl, rfl, rfl, rfl, rfl, rfl, rfl, rfl, rfl, rfl, rfl, rfl, rfl, rfl, rfl, rfl, rfl, rfl⟩ := hO; subst hr; obtain rfl : szS = F0.szS := congrArg Fns.szS hF; obtain rfl : largest = F0.largest := congrArg Fns.largest hF; obtain rfl : cells = F0.cells := congrArg Fns.cells hF; clear hF)
    simp only [c_eql_t, c_eql_f, c_neq_t, c_neq_f, c_lss_t, c_lss_f, c_leq_t, c_leq_f, c_gtr_t, c_gtr_f, c_geq_t, c_geq_f, sub_ln, sub_all, bn_t, bn_f, sel_t, sel_f, bq_eql_t, bq_eql_f, bq_neq_t, bq_neq_f, zi_eq, ln_eq, pr_eq, ad_zero] at hb; exact absurd rfl hb
  · clear hb
    refine ⟨[0, 1, 5], [], Int, fun i => [.reg 5 (.one (.v (.int .i64 i)))], fun i => 0 ≤ i ∧ i.toNat ≤ es.length, fun i => es.length - i.toNat, ⟨0, ?_, ?_⟩, ?_⟩
    · exact ⟨by omega, Nat.zero_le _⟩
    · cbv
    · rintro i hi
      replace hi : 0 ≤ i ∧ i.toNat ≤ es.length := hi
      obtain ⟨h0, h1⟩ := hi
      cbv
      repeat' first | refine And.intro ?_ ?_ | (refine caseB_intro (fun hb => ?_) (fun hb => ?_) <;> cbv) | (refine loop_step (ar .add .i64 i 1) ?_ ?_ (by cbv))
      all_goals (obtain ⟨rfl, rfl, rfl, rfl, rfl, rfl, rfl, rfl, rfl, rfl, rfl, rfl, rfl, rfl, rfl, rfl, rfl, rfl, rfl, rfl, rfl, rfl, rfl, rfl, rfl, rfl⟩ := hO; subst hr; obtain rfl : szS = F0.szS := congrArg Fns.szS hF; obtain rfl : largest = F0.largest := congrArg Fns.largest hF; obtain rfl : cells = F0.cells := congrArg Fns.cells hF; clear hF)
      all_goals simp only [c_eql_t, c_eql_f, c_neq_t, c_neq_f, c_lss_t, c_lss_f, c_leq_t, c_leq_f, c_gtr_t, c_gtr_f, c_geq_t, c_geq_f, sub_ln, sub_all, bn_t, bn_f, sel_t, sel_f, bq_eql_t, bq_eql_f, bq_neq_t, bq_neq_f, zi_eq, ln_eq, pr_eq, ad_zero] at *
      · exact row_ro hw h0 hb
      · exact row_ro hw h0 hb
      · kernel_rfl
      · rename_i hx; exact absurd hx (by decide)
      all_goals try rw [inc64 h0 hb (by omega)]
      · omega
      · omega
      · omega
def ct2 (F : Fns) : CT := fun f ds => match f, ds with
  | 12, [.one (.s 2 es), .one (.v (.int .i64 left))] => some (fun _ => True, [di (F.szS es left)])
  | 13, [.one (.s 2 es)] => some (fun _ => Wf zS es ∧ es.length ≤ 1048576, [di (F.largest es)])
  | 14, [.one (.s 2 es)] => some (fun _ => Wf zS es ∧ es.length ≤ 1048576, [row es])
  | 15, [.one (.s 2 es)] => some (fun _ => Wf zS es ∧ es.length ≤ 1048576, [di (F.largest es)])
  | 16, [.one (.s 2 es), d] => some (fun _ => d = row es ∧ Wf zS es ∧ es.length ≤ 1048576, [db true])
  | 17, [.one (.s 2 es)] => some (fun _ => Wf zS es ∧ es.length ≤ 1048576, [di (F.cells es)])
  | 18, [.one (.s 2 es)] => some (fun _ => Wf zS es ∧ es.length ≤ 1048576, [di (F.cells es)])
  | _, _ => none
theorem ct2_ok : CTok Try.prog (ct2 F0) := by
  intro f ds pre res h hp
  unfold ct2 at h
  split at h
  · cases h; exact ctr12 _ _
  · cases h; exact ctr13 _ hp.1 hp.2
  · cases h; exact ctr14 _ hp.1 hp.2
  · cases h; exact ctr15 _ hp.1 hp.2
  · cases h; obtain ⟨rfl, h1, h2⟩ := hp; exact ctr16 _ h1 h2
  · cases h; exact ctr17 _ hp.1 hp.2
  · cases h; exact ctr18 _ hp.1 hp.2
  · cases h
theorem szS_ok {es : List Rec} (hm : es.length ≤ maxLen) (h : 0 ≤ F0.szS es 1048576) : es.length ≤ 1048576 := by
  unfold maxLen at hm
  have e : arI .sub .i64 1048576 es.length = 1048576 - (es.length : Int) := sub64 (by omega)
  simp only [F0, e] at h
  split at h <;> omega
theorem ctr4 (es : List Rec) (hw : Wf zS es) (hm : es.length ≤ maxLen) : Ctr Try.prog 4 [row es] [db true] := by
  refine ctr_of_vwpO tabOk ct2_ok mixed 27 _ [4] [.tmp 2] Try.func4 rfl rfl rfl rfl rfl ?_
  intro pr ar sh cmp wr bq bn sel mm ln zi nn ad df cat sub rep gi gb gt gs pi pb pt ps up r F hO hr hF
  obtain ⟨szS, largest, cells⟩ := F
  cbv
  repeat' first | refine And.intro ?_ ?_ | (refine caseB_intro (fun hb => ?_) (fun hb => ?_) <;> cbv)
  all_goals (obtain ⟨rfl, rfl, rfl, rfl, rfl, rfl, rfl, rfl, rfl, rfl, rfl, rfl, rfl, rfl, rfl, rfl, rfl, rfl, rfl, rfl, rfl, rfl, rfl, rfl, rfl, rfl⟩ := hO; subst hr; obtain rfl : szS = F0.szS := congrArg Fns.szS hF; obtain rfl : largest = F0.largest := congrArg Fns.largest hF; obtain rfl : cells = F0.cells := congrArg Fns.cells hF; clear hF)
  all_goals simp only [c_eql_t, c_eql_f, c_neq_t, c_neq_f, c_lss_t, c_lss_f, c_leq_t, c_leq_f, c_gtr_t, c_gtr_f, c_geq_t, c_geq_f, sub_ln, sub_all, bn_t, bn_f, sel_t, sel_f, bq_eql_t, bq_eql_f, bq_neq_t, bq_neq_f, zi_eq, ln_eq, pr_eq, ad_zero] at *
  all_goals first | trivial | exact ⟨hw, szS_ok hm (by assumption)⟩ | exact ⟨trivial, hw, szS_ok hm (by assumption)⟩ | (rename_i hx _; exact absurd rfl hx) | (rename_i hx; exact absurd rfl hx) | exact absurd (by assumption) (by decide : ¬ (true = false)) | trace_state
theorem ctr4' (recs : List Rec) (h : confs [(false, [.sl [.int .i64, .int .i64]])] recs) : Ctr Try.prog 4 (argDVs [(false, [.sl [.int .i64, .int .i64]])] recs) [db true] := by
  match recs, h with
  | [[.s sz es]], h =>
    simp only [confs, confR, confL] at h
    obtain ⟨⟨⟨rfl, hm, hes⟩, _⟩, _⟩ := h
    refine ctr4 es ?_ hm
    intro e he
    match e, hes e he with
    | [.v (.int _ a), .v (.int _ b)], h =>
      simp only [confR, confL] at h
      obtain ⟨⟨rfl, _⟩, ⟨rfl, _⟩, _⟩ := h
      rfl
theorem ctr5 (es : List Rec) (hw : Wf zS es) (hm : es.length ≤ maxLen) : Ctr Try.prog 5 [row es] [db true] := by
  refine ctr_of_vwpO tabOk ct2_ok mixed 27 _ [4] [.tmp 2] Try.func5 rfl rfl rfl rfl rfl ?_
  intro pr ar sh cmp wr bq bn sel mm ln zi nn ad df cat sub rep gi gb gt gs pi pb pt ps up r F hO hr hF
  obtain ⟨szS, largest, cells⟩ := F
  cbv
  repeat' first | refine And.intro ?_ ?_ | (refine caseB_intro (fun hb => ?_) (fun hb => ?_) <;> cbv)
  all_goals (obtain ⟨rfl, rfl, rfl, rfl, rfl, rfl, rfl, rfl, rfl, rfl, rfl, rfl, rfl, rfl, rfl, rfl, rfl, rfl, rfl, rfl, rfl, rfl, rfl, rfl, rfl, rfl⟩ := hO; subst hr; obtain rfl : szS = F0.szS := congrArg Fns.szS hF; obtain rfl : largest = F0.largest := congrArg Fns.largest hF; obtain rfl : cells = F0.cells := congrArg Fns.cells hF; clear hF)
  all_goals simp only [c_eql_t, c_eql_f, c_neq_t, c_neq_f, c_lss_t, c_lss_f, c_leq_t, c_leq_f, c_gtr_t, c_gtr_f, c_geq_t, c_geq_f, sub_ln, sub_all, bn_t, bn_f, sel_t, sel_f, bq_eql_t, bq_eql_f, bq_neq_t, bq_neq_f, zi_eq, ln_eq, pr_eq, ad_zero] at *
  all_goals first | trivial | exact ⟨hw, szS_ok hm (by assumption)⟩ | exact ⟨trivial, hw, szS_ok hm (by assumption)⟩ | (rename_i hx _; exact absurd rfl hx) | (rename_i hx; exact absurd rfl hx) | exact absurd (by assumption) (by decide : ¬ (true = false)) | trace_state
theorem ctr5' (recs : List Rec) (h : confs [(false, [.sl [.int .i64, .int .i64]])] recs) : Ctr Try.prog 5 (argDVs [(false, [.sl [.int .i64, .int .i64]])] recs) [db true] := by
  match recs, h with
  | [[.s sz es]], h =>
    simp only [confs, confR, confL] at h
    obtain ⟨⟨⟨rfl, hm, hes⟩, _⟩, _⟩ := h
    refine ctr5 es ?_ hm
    intro e he
    match e, hes e he with
    | [.v (.int _ a), .v (.int _ b)], h =>
      simp only [confR, confL] at h
      obtain ⟨⟨rfl, _⟩, ⟨rfl, _⟩, _⟩ := h
      rfl
end Go.V
