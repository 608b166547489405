/-
  Contracts of functions of the program, by evaluation of conditions on their code.
-/
import Derived.Test.YtebdoecpgpnphaaS1
import Derived.Test.YtebdoecpgpnphaaV30
set_option linter.all false

namespace Go.V
open Go Go.Proofs
set_option maxRecDepth 1000000
set_option maxHeartbeats 1000000
structure Fns where
  inR : Int → Int → Int → Bool
  fit : Int → Int → Int → Int → Int → Int → Int → Int → Bool
def inR0 (x lo hi : Int) : Bool := decide (lo ≤ x) && decide (x ≤ hi)
def fitsI (n : Int) : Bool := inR0 n 0 100000
def fits (a b c d e f g h : Int) : Bool := fitsI a && fitsI b && fitsI c && fitsI d && fitsI e && fitsI f && fitsI g && fitsI h && (d == arI .add .i64 (arI .add .i64 (arI .add .i64 e f) g) h && decide (c ≤ b) && decide (b ≤ a))
def F0 : Fns where
  inR := inR0
  fit := fits
def ctE (_ : Fns) : CT := fun _ _ => none
theorem ctE_ok : CTok Try.prog (ctE F0) := by intro f ds pre res h; cases h
theorem ctr29 (x lo hi : Int) : Ctr Try.prog 29 [di x, di lo, di hi] [db (F0.inR x lo hi)] := by
  refine ctr_of_vwpO tabOk ctE_ok mixed 15 _ [4] [.tmp 6] Try.func29 rfl rfl rfl rfl rfl ?_
  intro pr ar sh cmp wr bq bn sel mm ln zi nn ad df cat sub rep gi gb gt gs pi pb pt ps up r F hO hr hF
  obtain ⟨inR, fit⟩ := F
  cbv
  repeat' first | refine And.intro ?_ ?_ | (refine caseB_intro (fun hb => ?_) (fun hb => ?_) <;> cbv)
  all_goals (obtain ⟨rfl, rfl, rfl, rfl, rfl, rfl, rfl, rfl, rfl, rfl, rfl, rfl, rfl, rfl, rfl, rfl, rfl, rfl, rfl, rfl, rfl, rfl, rfl, rfl, rfl, rfl⟩ := hO; subst hr; obtain rfl : inR = F0.inR := congrArg Fns.inR hF; obtain rfl : fit = F0.fit := congrArg Fns.fit hF; clear hF)
  · simp only [cmpI, decide_eq_true_eq, prI, F0, inR0, selI] at hb ⊢; simp at hb ⊢; exact fun _ => hb
  · trivial
  · simp only [cmpI, decide_eq_false_iff_not, prI, F0, inR0] at hb ⊢; simp at hb ⊢; intro h; omega
  · trivial

theorem ctr30 (x lo hi : Int) : Ctr Try.prog 30 [di x, di lo, di hi] [db (F0.inR x lo hi)] := by
  refine ctr_of_vwpO tabOk ctE_ok mixed 15 _ [4] [.tmp 6] Try.func30 rfl rfl rfl rfl rfl ?_
  intro pr ar sh cmp wr bq bn sel mm ln zi nn ad df cat sub rep gi gb gt gs pi pb pt ps up r F hO hr hF
  obtain ⟨inR, fit⟩ := F
  cbv
  repeat' first | refine And.intro ?_ ?_ | (refine caseB_intro (fun hb => ?_) (fun hb => ?_) <;> cbv)
  all_goals (obtain ⟨rfl, rfl, rfl, rfl, rfl, rfl, rfl, rfl, rfl, rfl, rfl, rfl, rfl, rfl, rfl, rfl, rfl, rfl, rfl, rfl, rfl, rfl, rfl, rfl, rfl, rfl⟩ := hO; subst hr; obtain rfl : inR = F0.inR := congrArg Fns.inR hF; obtain rfl : fit = F0.fit := congrArg Fns.fit hF; clear hF)
  · simp only [cmpI, decide_eq_true_eq, prI, F0, inR0, selI] at hb ⊢; simp at hb ⊢; exact fun _ => hb
  · trivial
  · simp only [cmpI, decide_eq_false_iff_not, prI, F0, inR0] at hb ⊢; simp at hb ⊢; intro h; omega
  · trivial

def acc (a b c d e f g h : Int) : DV := .agg [.v (.int .i64 a), .v (.int .i64 b), .v (.int .i64 c), .v (.int .i64 d), .v (.int .i64 e), .v (.int .i64 f), .v (.int .i64 g), .v (.int .i64 h)]
theorem fits_not {a b c d e f g h : Int} : ∀ n, n < 8 → fitsI ([a, b, c, d, e, f, g, h].getD n 0) = false → fits a b c d e f g h = false := by
  intro n hn hf
  match n, hn, hf with
  | 0, _, hf => simp at hf; simp [fits, hf]
  | 1, _, hf => simp at hf; simp [fits, hf]
  | 2, _, hf => simp at hf; simp [fits, hf]
  | 3, _, hf => simp at hf; simp [fits, hf]
  | 4, _, hf => simp at hf; simp [fits, hf]
  | 5, _, hf => simp at hf; simp [fits, hf]
  | 6, _, hf => simp at hf; simp [fits, hf]
  | 7, _, hf => simp at hf; simp [fits, hf]
theorem fits_all {a b c d e f g h : Int} (hh : ∀ n : Nat, n < 8 → fitsI ([a, b, c, d, e, f, g, h].getD n 0) = true) : fits a b c d e f g h = (d == arI .add .i64 (arI .add .i64 (arI .add .i64 e f) g) h && decide (c ≤ b) && decide (b ≤ a)) := by
  have h0 := hh 0 (by omega); have h1 := hh 1 (by omega); have h2 := hh 2 (by omega); have h3 := hh 3 (by omega)
  have h4 := hh 4 (by omega); have h5 := hh 5 (by omega); have h6 := hh 6 (by omega); have h7 := hh 7 (by omega)
  simp only [List.getD_cons_zero, List.getD_cons_succ] at h0 h1 h2 h3 h4 h5 h6 h7
  simp only [fits, h0, h1, h2, h3, h4, h5, h6, h7, Bool.and_true, Bool.true_and]
def ct1 (F : Fns) : CT := fun f ds => match f, ds with
  | 29, [.one (.v (.int .i64 x)), .one (.v (.int .i64 lo)), .one (.v (.int .i64 hi))] => some (fun _ => True, [db (F.inR x lo hi)])
  | 30, [.one (.v (.int .i64 x)), .one (.v (.int .i64 lo)), .one (.v (.int .i64 hi))] => some (fun _ => True, [db (F.inR x lo hi)])
  | _, _ => none
theorem ct1_ok : CTok Try.prog (ct1 F0) := by
  intro f ds pre res h _
  unfold ct1 at h
  split at h
  · cases h; exact ctr29 _ _ _
  · cases h; exact ctr30 _ _ _
  · cases h
theorem ctr9 (a b c d e f g h : Int) : Ctr Try.prog 9 [acc a b c d e f g h] [db (fits a b c d e f g h)] := by
  refine ctr_of_vwpO tabOk ct1_ok mixed 62 _ [4] [.tmp 2] Try.func9 rfl rfl rfl rfl rfl ?_
  intro pr ar sh cmp wr bq bn sel mm ln zi nn ad df cat sub rep gi gb gt gs pi pb pt ps up r F hO hr hF
  obtain ⟨inR, fit⟩ := F
  cbv
  have hEq : [[L.v (.int .i64 a)], [L.v (.int .i64 b)], [L.v (.int .i64 c)], [L.v (.int .i64 d)], [L.v (.int .i64 e)], [L.v (.int .i64 f)], [L.v (.int .i64 g)], [L.v (.int .i64 h)]] = rowI [a, b, c, d, e, f, g, h] := rfl
  have hlen : (rowI [a, b, c, d, e, f, g, h]).length = 8 := rfl
  refine ⟨?_, [1, 2, 3, 4], [1, 3], Int, fun i => [.reg 4 (.one (.v (.int .i64 i)))], fun i => 0 ≤ i ∧ i ≤ 8 ∧ ∀ j : Nat, j < i.toNat → fitsI ([a, b, c, d, e, f, g, h].getD j 0) = true, fun i => (8 - i).toNat, ⟨0, ?_, ?_⟩, fun i hi => ?_⟩
  · obtain ⟨rfl, rfl, rfl, rfl, rfl, rfl, rfl, rfl, rfl, rfl, rfl, rfl, rfl, rfl, rfl, rfl, rfl, rfl, rfl, rfl, rfl, rfl, rfl, rfl, rfl, rfl⟩ := hO
    exact ⟨rfl, rfl⟩
  · exact ⟨by omega, by omega, fun j hj => by omega⟩
  · cbv
  · cbv
    replace hi : 0 ≤ i ∧ i ≤ 8 ∧ ∀ j : Nat, j < i.toNat → fitsI ([a, b, c, d, e, f, g, h].getD j 0) = true := hi
    obtain ⟨h0, h8, hall⟩ := hi
    repeat' first | refine And.intro ?_ ?_ | (refine caseB_intro (fun hb => ?_) (fun hb => ?_) <;> cbv) | (refine loop_step (ar .add .i64 i 1) ?_ ?_ (by cbv))
    all_goals (obtain ⟨rfl, rfl, rfl, rfl, rfl, rfl, rfl, rfl, rfl, rfl, rfl, rfl, rfl, rfl, rfl, rfl, rfl, rfl, rfl, rfl, rfl, rfl, rfl, rfl, rfl, rfl⟩ := hO; subst hr; obtain rfl : inR = F0.inR := congrArg Fns.inR hF; obtain rfl : fit = F0.fit := congrArg Fns.fit hF; clear hF)
    all_goals simp only [hEq, cmpI, lnI, ziI, hlen, decide_eq_true_eq, decide_eq_false_iff_not, adI, Nat.zero_add, pi_one, rowI_gi, Int.toNat_natCast, bnI, selI, Bool.not_eq_true', Bool.not_eq_false'] at *
    · exact ⟨h0, hb⟩
    · exact row_load (z0 := [.v (.int .i64 0)]) (rowI_wf _) (by rw [rowI_length]; simp; omega) rfl (by decide)
    · exact trivial
    · exact congrArg (fun b => [DV.one (L.v (.bool b))]) (fits_not _ (by omega) hb).symm
    · rw [show arI .add .i64 i 1 = i + 1 from IntWalk.i64_in _ (by omega)]; omega
    · rw [show arI .add .i64 i 1 = i + 1 from IntWalk.i64_in _ (by omega)]; omega
    · intro j hj
      rw [show arI .add .i64 i 1 = i + 1 from IntWalk.i64_in _ (by omega)] at hj
      rcases Nat.lt_or_ge j i.toNat with c | c
      · exact hall j c
      · have : j = i.toNat := by omega
        subst this; exact hb
    · rw [show arI .add .i64 i 1 = i + 1 from IntWalk.i64_in _ (by omega)]; show (8 - (i + 1)).toNat < (8 - i).toNat; omega
    · rename_i hc hd
      rw [fits_all (fun n hn => hall n (by omega)), hc]; simp only [cond_true] at hd ⊢; rw [hd]; rfl
    · rename_i hc hd
      rw [fits_all (fun n hn => hall n (by omega)), hc]; simp only [cond_true] at hd ⊢; rw [hd]; rfl
    · rename_i hd
      rw [fits_all (fun n hn => hall n (by omega)), hd]; rfl
theorem ctr11 (a b c d e f g h : Int) : Ctr Try.prog 11 [acc a b c d e f g h] [db (fits a b c d e f g h)] := by
  refine ctr_of_vwpO tabOk ct1_ok mixed 59 _ [4] [.tmp 2] Try.func11 rfl rfl rfl rfl rfl ?_
  intro pr ar sh cmp wr bq bn sel mm ln zi nn ad df cat sub rep gi gb gt gs pi pb pt ps up r F hO hr hF
  obtain ⟨inR, fit⟩ := F
  cbv
  have hEq : [[L.v (.int .i64 a)], [L.v (.int .i64 b)], [L.v (.int .i64 c)], [L.v (.int .i64 d)], [L.v (.int .i64 e)], [L.v (.int .i64 f)], [L.v (.int .i64 g)], [L.v (.int .i64 h)]] = rowI [a, b, c, d, e, f, g, h] := rfl
  have hlen : (rowI [a, b, c, d, e, f, g, h]).length = 8 := rfl
  refine ⟨[1, 2, 21, 22, 23], [1, 21], Int, fun i => [.reg 23 (.one (.v (.int .i64 i)))], fun i => 0 ≤ i ∧ i ≤ 8 ∧ ∀ j : Nat, j < i.toNat → fitsI ([a, b, c, d, e, f, g, h].getD j 0) = true, fun i => (8 - i).toNat, ⟨0, ?_, ?_⟩, fun i hi => ?_⟩
  · exact ⟨by omega, by omega, fun j hj => by omega⟩
  · cbv
  · cbv
    replace hi : 0 ≤ i ∧ i ≤ 8 ∧ ∀ j : Nat, j < i.toNat → fitsI ([a, b, c, d, e, f, g, h].getD j 0) = true := hi
    obtain ⟨h0, h8, hall⟩ := hi
    repeat' first | refine And.intro ?_ ?_ | (refine caseB_intro (fun hb => ?_) (fun hb => ?_) <;> cbv) | (refine loop_step (ar .add .i64 i 1) ?_ ?_ (by cbv))
    all_goals (obtain ⟨rfl, rfl, rfl, rfl, rfl, rfl, rfl, rfl, rfl, rfl, rfl, rfl, rfl, rfl, rfl, rfl, rfl, rfl, rfl, rfl, rfl, rfl, rfl, rfl, rfl, rfl⟩ := hO; subst hr; obtain rfl : inR = F0.inR := congrArg Fns.inR hF; obtain rfl : fit = F0.fit := congrArg Fns.fit hF; clear hF)
    all_goals simp only [hEq, cmpI, lnI, ziI, hlen, decide_eq_true_eq, decide_eq_false_iff_not, adI, Nat.zero_add, pi_one, rowI_gi, Int.toNat_natCast, bnI, selI, Bool.not_eq_true', Bool.not_eq_false'] at *
    · exact ⟨h0, hb⟩
    · exact row_load (z0 := [.v (.int .i64 0)]) (rowI_wf _) (by rw [rowI_length]; simp; omega) rfl (by decide)
    · exact trivial
    · exact congrArg (fun b => [DV.one (L.v (.bool b))]) (fits_not _ (by omega) hb).symm
    · rw [show arI .add .i64 i 1 = i + 1 from IntWalk.i64_in _ (by omega)]; omega
    · rw [show arI .add .i64 i 1 = i + 1 from IntWalk.i64_in _ (by omega)]; omega
    · intro j hj
      rw [show arI .add .i64 i 1 = i + 1 from IntWalk.i64_in _ (by omega)] at hj
      rcases Nat.lt_or_ge j i.toNat with c | c
      · exact hall j c
      · have : j = i.toNat := by omega
        subst this; exact hb
    · rw [show arI .add .i64 i 1 = i + 1 from IntWalk.i64_in _ (by omega)]; show (8 - (i + 1)).toNat < (8 - i).toNat; omega
    · rename_i hc hd
      rw [fits_all (fun n hn => hall n (by omega)), hc]; simp only [cond_true] at hd ⊢; rw [hd]; rfl
    · rename_i hc hd
      rw [fits_all (fun n hn => hall n (by omega)), hc]; simp only [cond_true] at hd ⊢; rw [hd]; rfl
    · rename_i hd
      rw [fits_all (fun n hn => hall n (by omega)), hd]; rfl

theorem ctr10 (a b c d e f g h : Int) : Ctr Try.prog 10 [acc a b c d e f g h] [acc a b c d e f g h] := by
  refine ctr_of_vwpO tabOk ctE_ok mixed 29 _ [25] [.cell 2 25] Try.func10 rfl rfl rfl rfl rfl ?_
  intro pr ar sh cmp wr bq bn sel mm ln zi nn ad df cat sub rep gi gb gt gs pi pb pt ps up r F hO hr hF
  obtain ⟨inR, fit⟩ := F
  cbv
  repeat' first | refine And.intro ?_ ?_ | (refine caseB_intro (fun hb => ?_) (fun hb => ?_) <;> cbv)
  all_goals (obtain ⟨rfl, rfl, rfl, rfl, rfl, rfl, rfl, rfl, rfl, rfl, rfl, rfl, rfl, rfl, rfl, rfl, rfl, rfl, rfl, rfl, rfl, rfl, rfl, rfl, rfl, rfl⟩ := hO; subst hr; obtain rfl : inR = F0.inR := congrArg Fns.inR hF; obtain rfl : fit = F0.fit := congrArg Fns.fit hF; clear hF)
  · rfl
  · trivial
def ct2 (F : Fns) : CT := fun f ds => match f, ds with
  | 10, [.agg ls] => some (fun _ => ∃ a b c d e f g h, DV.agg ls = acc a b c d e f g h, [.agg ls])
  | 9, [.agg [.v (.int _ a), .v (.int _ b), .v (.int _ c), .v (.int _ d), .v (.int _ e), .v (.int _ f), .v (.int _ g), .v (.int _ h)]] => some (fun _ => ds = [acc a b c d e f g h], [db (F.fit a b c d e f g h)])
  | 11, [.agg [.v (.int _ a), .v (.int _ b), .v (.int _ c), .v (.int _ d), .v (.int _ e), .v (.int _ f), .v (.int _ g), .v (.int _ h)]] => some (fun _ => ds = [acc a b c d e f g h], [db (F.fit a b c d e f g h)])
  | _, _ => none
theorem ct2_ok : CTok Try.prog (ct2 F0) := by
  intro f ds pre res h hp
  unfold ct2 at h
  split at h
  · cases h
    obtain ⟨a, b, c, d, e, f, g, h, e1⟩ := hp
    rw [e1]; exact ctr10 _ _ _ _ _ _ _ _
  · cases h; rw [show _ = _ from hp]; exact ctr9 _ _ _ _ _ _ _ _
  · cases h; rw [show _ = _ from hp]; exact ctr11 _ _ _ _ _ _ _ _
  · cases h
theorem ctr3 (a b c d e f g h : Int) : Ctr Try.prog 3 [acc a b c d e f g h] [db true] := by
  refine ctr_of_vwpO tabOk ct2_ok mixed 14 _ [4] [.tmp 2] Try.func3 rfl rfl rfl rfl rfl ?_
  intro pr ar sh cmp wr bq bn sel mm ln zi nn ad df cat sub rep gi gb gt gs pi pb pt ps up r F hO hr hF
  obtain ⟨inR, fit⟩ := F
  cbv
  repeat' first | refine And.intro ?_ ?_ | (refine caseB_intro (fun hb => ?_) (fun hb => ?_) <;> cbv)
  all_goals (obtain ⟨rfl, rfl, rfl, rfl, rfl, rfl, rfl, rfl, rfl, rfl, rfl, rfl, rfl, rfl, rfl, rfl, rfl, rfl, rfl, rfl, rfl, rfl, rfl, rfl, rfl, rfl⟩ := hO; subst hr; obtain rfl : inR = F0.inR := congrArg Fns.inR hF; obtain rfl : fit = F0.fit := congrArg Fns.fit hF; clear hF)
  · exact ⟨a, b, c, d, e, f, g, h, rfl⟩
  · exact rfl
  · exact ⟨a, b, c, d, e, f, g, h, rfl⟩
  · exact rfl
  · revert hb; cases F0.fit a b c d e f g h <;> simp [bqI]
  · trivial
  · exact rfl
  · trivial

theorem ctr3' (recs : List Rec) (h : confs [(true, [.int .i64, .int .i64, .int .i64, .int .i64, .int .i64, .int .i64, .int .i64, .int .i64])] recs) : Ctr Try.prog 3 (argDVs [(true, [.int .i64, .int .i64, .int .i64, .int .i64, .int .i64, .int .i64, .int .i64, .int .i64])] recs) [db true] := by
  match recs, h with
  | [[.v (.int _ a), .v (.int _ b), .v (.int _ c), .v (.int _ d), .v (.int _ e), .v (.int _ f), .v (.int _ g), .v (.int _ i)]], h =>
    simp only [confs, confR, confL] at h
    obtain ⟨⟨⟨rfl, _⟩, ⟨rfl, _⟩, ⟨rfl, _⟩, ⟨rfl, _⟩, ⟨rfl, _⟩, ⟨rfl, _⟩, ⟨rfl, _⟩, ⟨rfl, _⟩, _⟩, _⟩ := h
    exact ctr3 a b c d e f g i

end Go.V
