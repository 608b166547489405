/-
  Contracts of functions, by evaluation of conditions on their code.
-/
import Derived.Test.YtbdgkoalfnehoaaS5
import Derived.Test.YtbdgkoalfnehoaaVD

set_option linter.all false
namespace Go.V
open Go Go.Proofs
set_option maxRecDepth 1000000
set_option maxHeartbeats 8000000
namespace LRange
structure Fns where
  no : Unit
def F0 : Fns := ⟨()⟩
def ct : Fns → CT := noC
theorem ct_ok : CTok Try.prog (ct F0) := noC_ok
def mt : Fns → MT := noMT
theorem mt_ok : MTok Try.prog (mt F0) := noMT_ok
def pt : Fns → PT := noPT
theorem pt_ok : PTok Try.prog (pt F0) := noPT_ok
end LRange
theorem c_laws_toRange (a0 : Int) (a1 : Int) (hp : True) : Ctr Try.prog 68 [.agg [.v (.int .i64 a0), .v (.int .i64 a1)]] [.agg [.v (.int .i64 a0), .v (.int .i64 a1)]] := by

  refine ctr_of (ctF := LRange.ct) (mtF := LRange.mt) (ptF := LRange.pt) (F0 := LRange.F0) tabOk LRange.ct_ok LRange.mt_ok LRange.pt_ok mixed 11 _ [133] [.cell 2 133] Try.func68 rfl rfl rfl rfl rfl ?_
  intro O r F hO hr hF
  cbv
  repeat' first | refine And.intro ?_ ?_ | (refine caseB_intro (fun hb => ?_) (fun hb => ?_) <;> cbv)
  all_goals ((try subst hos); subst hO hr hF; (try simp only [stdO, SS, sub_all, ad_zero] at *); (try simp only [ncast] at *); (try simp only [Int.ofNat_eq_natCast] at *))
  all_goals (try simp only [LRange.F0] at *)
  all_goals first
    | trivial
    | exact rfl
    | exact ⟨trivial, trivial⟩
    | exact ⟨rfl, rfl⟩
    | (refine ⟨by assumption, ?_⟩; (try simp only [cntRs, Nat.add_zero]); omega)
    | ((try simp only [cntRs, Nat.add_zero]); omega)
    | trace_state
theorem c_laws_eqRange (a0 : Int) (a1 : Int) (d : DV) (hp : d = .agg [.v (.int .i64 a0), .v (.int .i64 a1)]) : Ctr Try.prog 79 [.agg [.v (.int .i64 a0), .v (.int .i64 a1)], d] [.one (.v (.bool true))] := by
  subst hp
  refine ctr_of (ctF := LRange.ct) (mtF := LRange.mt) (ptF := LRange.pt) (F0 := LRange.F0) tabOk LRange.ct_ok LRange.mt_ok LRange.pt_ok mixed 15 _ [4] [.tmp 4] Try.func79 rfl rfl rfl rfl rfl ?_
  intro O r F hO hr hF
  cbv
  repeat' first | refine And.intro ?_ ?_ | (refine caseB_intro (fun hb => ?_) (fun hb => ?_) <;> cbv)
  all_goals ((try subst hos); subst hO hr hF; (try simp only [stdO, SS, sub_all, ad_zero] at *); (try simp only [ncast] at *); (try simp only [Int.ofNat_eq_natCast] at *))
  all_goals (try simp only [LRange.F0] at *)
  all_goals first
    | trivial
    | exact rfl
    | exact absurd rfl hb
    | exact absurd rfl (by assumption)
    | (refine ⟨trivial, by assumption, ?_⟩; (try simp only [cntRs, Nat.add_zero]); omega)
    | (refine ⟨trivial, ?_⟩; (try simp only [cntRs, Nat.add_zero]); omega)
    | trace_state
namespace LRangeS
structure Fns where
  no : Unit
def F0 : Fns := ⟨()⟩
def ct (F : Fns) : CT := fun f ds => match f, ds with
  | 68, [.agg [.v (.int .i64 a0), .v (.int .i64 a1)]] => some (fun _ => True, [.agg [.v (.int .i64 a0), .v (.int .i64 a1)]])
  | 79, [.agg [.v (.int .i64 a0), .v (.int .i64 a1)], d] => some (fun _ => d = .agg [.v (.int .i64 a0), .v (.int .i64 a1)], [.one (.v (.bool true))])
  | _, _ => none
theorem ct_ok : CTok Try.prog (ct F0) := by
  intro f ds pre res h hp
  unfold ct at h
  split at h
  · cases h; exact c_laws_toRange _ _ hp
  · cases h; exact c_laws_eqRange _ _ _ hp
  · cases h
def mt : Fns → MT := noMT
theorem mt_ok : MTok Try.prog (mt F0) := noMT_ok
def pt : Fns → PT := noPT
theorem pt_ok : PTok Try.prog (pt F0) := noPT_ok
end LRangeS
theorem c_laws_szRangeS (es : List (List L)) (left : Int) (hp : Rw [tI, tI] es ∧ 0 ≤ left ∧ left ≤ 1048576) : Ctr Try.prog 22 [.one (.s 2 es), .one (.v (.int .i64 left))] [.one (.v (.int .i64 (szN0 [es] left)))] := by
  obtain ⟨hw, h0, h1⟩ := hp
  have hc : cntE es = es.length := hw.cnt rfl
  have hm := hw.1; unfold maxLen at hm
  have hs : arI .sub .i64 left es.length = left - es.length := sub64 (by omega)
  have hn : szN0 [es] left = if left < es.length then -1 else left - es.length := by unfold szN0; rw [cntRs_one, hc]
  refine ctr_of (ctF := LRangeS.ct) (mtF := LRangeS.mt) (ptF := LRangeS.pt) (F0 := LRangeS.F0) tabOk LRangeS.ct_ok LRangeS.mt_ok LRangeS.pt_ok mixed 12 _ [3] [.tmp 4] Try.func22 rfl rfl rfl rfl rfl ?_
  intro O r F hO hr hF
  cbv
  repeat' first | refine And.intro ?_ ?_ | (refine caseB_intro (fun hb => ?_) (fun hb => ?_) <;> cbv)
  all_goals ((try subst hos); subst hO hr hF; (try simp only [stdO, SS, sub_all, ad_zero] at *); (try simp only [ncast] at *); (try simp only [Int.ofNat_eq_natCast] at *))
  all_goals (try simp only [hs, LRangeS.F0] at *)
  all_goals first | trivial | (rw [hn, if_pos (by omega)]) | (rw [hn, if_neg (by omega)])
theorem c_laws_toRangeS (es : List (List L)) (hp : Rw [tI, tI] es ∧ cntE es ≤ 1048576) : Ctr Try.prog 31 [.one (.s 2 es)] [.one (.s 2 es)] := by
  obtain ⟨hw, hlim⟩ := hp
  have hwf : Wf [.v (.int .i64 0), .v (.int .i64 0)] es := hw.wf
  have hlen : es.length ≤ 1048576 := Nat.le_trans (Nat.le_add_right _ _) hlim
  refine ctr_of (ctF := LRangeS.ct) (mtF := LRangeS.mt) (ptF := LRangeS.pt) (F0 := LRangeS.F0) tabOk LRangeS.ct_ok LRangeS.mt_ok LRangeS.pt_ok mixed 23 _ [61] [.tmp 2] Try.func31 rfl rfl rfl rfl rfl ?_
  intro O r F hO hr hF
  cbv
  have h0z : fillR es [.v (.int .i64 0), .v (.int .i64 0)] 0 = O.rep (O.zi (O.ln es)) [.v (.int .i64 0), .v (.int .i64 0)] := by
    subst hO
    rw [fillR_zero]; rfl
  refine ⟨?_, ?_, [0, 3, 4], [3], Int × List (List L), fun s => [.reg 4 (.one (.v (.int .i64 s.1))), .leaf 3 0 ⟨0, 0, none, .own (.s 2 s.2)⟩], fun s => 0 ≤ s.1 ∧ s.1.toNat ≤ es.length ∧ s.2 = fillR es [.v (.int .i64 0), .v (.int .i64 0)] s.1.toNat, fun s => es.length - s.1.toNat, ⟨(0, O.rep (O.zi (O.ln es)) [.v (.int .i64 0), .v (.int .i64 0)]), ?_, ?_⟩, ?_⟩
  · subst hO
    exact mk_ok (b := 16) (show es.length * _ ≤ _ by omega) (show es.length ≤ _ by omega)
  · subst hO
    exact ⟨rfl, rfl⟩
  · exact ⟨by omega, Nat.zero_le _, h0z.symm⟩
  · cbv
  · rintro ⟨i, m⟩ hi
    replace hi : 0 ≤ i ∧ i.toNat ≤ es.length ∧ m = fillR es [.v (.int .i64 0), .v (.int .i64 0)] i.toNat := hi
    obtain ⟨g0, g1, hm⟩ := hi
    cbv
    repeat' first | refine And.intro ?_ ?_ | (refine caseB_intro (fun hb => ?_) (fun hb => ?_) <;> cbv) | (refine loop_step (O.ar .add .i64 i 1, O.up (.s 2 m) [(O.ad 0 i, 0)] [.v (.int .i64 (O.gi es i 0)), .v (.int .i64 (O.gi es i 1))]) ?_ ?_ ?_; rotate_left 2; focus (cbv; done))
    all_goals ((try subst hos); subst hO hr hF; (try simp only [stdO, SS, sub_all, ad_zero] at *); (try simp only [ncast] at *); (try simp only [Int.ofNat_eq_natCast] at *))
    all_goals (try simp only [LRangeS.F0, repI, List.length_replicate, Int.toNat_natCast] at *)
    all_goals try have hlt : i < es.length := by assumption
    all_goals try rw [inc64 (n := es.length) g0 hlt (by omega)]
    all_goals try have he : es.getD i.toNat [] = [.v (.int .i64 (giI es i 0)), .v (.int .i64 (giI es i 1))] := (etaE_whole hwf g0 hlt).symm
    all_goals try have hct := cntE_at (es := es) (n := i.toNat) (by omega); rw [he] at hct; simp only [cntR, cntL, Nat.add_zero, Nat.zero_add] at hct
    all_goals have hle1 := cntEs_take_le (es := es) (n := i.toNat + 1)
    all_goals have hcE : cntE es = es.length + cntEs es := rfl
    all_goals first
      | exact row_ro hwf g0 hlt
      | exact ⟨g0, hlt⟩
      | (rw [hm]; exact getR_some (by rw [fillR_length g1]; omega) (by rw [fillR_getD (by omega)]; exact Nat.le_refl _))
      | omega
      | (rw [show (i + 1).toNat = i.toNat + 1 from by omega, ← fillR_set (by omega), ← hm, upI_one (by rw [hm, fillR_getD (by omega)]; rfl), he])
      | (rw [hm, fillR_length g1]; exact ⟨trivial, rfl⟩)
      | (rw [hm, show i.toNat = es.length from by omega, fillR_all])
      | trivial
      | exact ⟨trivial, trivial⟩
      | (refine ⟨?_⟩; simp only [cntRs, cntE, Nat.add_zero]; omega)
      | trace_state
theorem c_laws_eqRangeS (es : List (List L)) (d : DV) (hp : d = .one (.s 2 es) ∧ Rw [tI, tI] es ∧ cntE es ≤ 1099511627776) : Ctr Try.prog 40 [.one (.s 2 es), d] [.one (.v (.bool true))] := by
  obtain ⟨rfl, hw, hlim⟩ := hp
  have hwf : Wf [.v (.int .i64 0), .v (.int .i64 0)] es := hw.wf
  have hlen : es.length ≤ 1099511627776 := Nat.le_trans (Nat.le_add_right _ _) hlim
  refine ctr_of (ctF := LRangeS.ct) (mtF := LRangeS.mt) (ptF := LRangeS.pt) (F0 := LRangeS.F0) tabOk LRangeS.ct_ok LRangeS.mt_ok LRangeS.pt_ok mixed 27 _ [4] [.tmp 4] Try.func40 rfl rfl rfl rfl rfl ?_
  intro O r F hO hr hF
  cbv
  refine caseB_intro (fun hb => ?_) (fun hb => ?_) <;> cbv
  · ((try subst hos); subst hO hr hF; (try simp only [stdO, SS, sub_all, ad_zero] at *); (try simp only [ncast] at *); (try simp only [Int.ofNat_eq_natCast] at *)); exact absurd rfl hb
  · clear hb
    refine ⟨[0, 1, 5], [], Int, fun i => [.reg 5 (.one (.v (.int .i64 i)))], fun i => 0 ≤ i ∧ i.toNat ≤ es.length, fun i => es.length - i.toNat, ⟨0, ?_, ?_⟩, ?_⟩
    · exact ⟨by omega, Nat.zero_le _⟩
    · cbv
    · rintro i hi
      replace hi : 0 ≤ i ∧ i.toNat ≤ es.length := hi
      obtain ⟨g0, g1⟩ := hi
      cbv
      repeat' first | refine And.intro ?_ ?_ | (refine caseB_intro (fun hb => ?_) (fun hb => ?_) <;> cbv) | (refine loop_step (O.ar .add .i64 i 1) ?_ ?_ ?_; rotate_left 2; focus (cbv; done))
      all_goals ((try subst hos); subst hO hr hF; (try simp only [stdO, SS, sub_all, ad_zero] at *); (try simp only [ncast] at *); (try simp only [Int.ofNat_eq_natCast] at *))
      all_goals (try simp only [LRangeS.F0] at *)
      all_goals try have hlt : i < es.length := by assumption
      all_goals try rw [inc64 (n := es.length) g0 hlt (by omega)]
      all_goals try have he : es.getD i.toNat [] = [.v (.int .i64 (giI es i 0)), .v (.int .i64 (giI es i 1))] := (etaE_whole hwf g0 hlt).symm
      all_goals try have hct := cntE_at (es := es) (n := i.toNat) (by omega); rw [he] at hct; simp only [cntR, cntL, Nat.add_zero, Nat.zero_add] at hct
      all_goals have hle1 := cntEs_take_le (es := es) (n := i.toNat + 1)
      all_goals have hcE : cntE es = es.length + cntEs es := rfl
      all_goals first
        | omega
        | exact row_ro hwf g0 hlt
        | exact absurd rfl hb
        | exact absurd rfl (by assumption)
        | trivial
        | kernel_rfl
        | exact ⟨trivial, trivial⟩
        | (refine ⟨trivial, ?_⟩; simp only [cntRs, cntE, Nat.add_zero]; omega)
        | trace_state
namespace LSpan
structure Fns where
  no : Unit
def F0 : Fns := ⟨()⟩
def ct : Fns → CT := noC
theorem ct_ok : CTok Try.prog (ct F0) := noC_ok
def mt : Fns → MT := noMT
theorem mt_ok : MTok Try.prog (mt F0) := noMT_ok
def pt : Fns → PT := noPT
theorem pt_ok : PTok Try.prog (pt F0) := noPT_ok
end LSpan
theorem c_laws_toSpan (a0 : Int) (a1 : Int) (a2 : Int) (hp : True) : Ctr Try.prog 69 [.agg [.v (.int .i64 a0), .v (.int .i64 a1), .v (.int .i64 a2)]] [.agg [.v (.int .i64 a0), .v (.int .i64 a1), .v (.int .i64 a2)]] := by

  refine ctr_of (ctF := LSpan.ct) (mtF := LSpan.mt) (ptF := LSpan.pt) (F0 := LSpan.F0) tabOk LSpan.ct_ok LSpan.mt_ok LSpan.pt_ok mixed 14 _ [114] [.cell 2 114] Try.func69 rfl rfl rfl rfl rfl ?_
  intro O r F hO hr hF
  cbv
  repeat' first | refine And.intro ?_ ?_ | (refine caseB_intro (fun hb => ?_) (fun hb => ?_) <;> cbv)
  all_goals ((try subst hos); subst hO hr hF; (try simp only [stdO, SS, sub_all, ad_zero] at *); (try simp only [ncast] at *); (try simp only [Int.ofNat_eq_natCast] at *))
  all_goals (try simp only [LSpan.F0] at *)
  all_goals first
    | trivial
    | exact rfl
    | exact ⟨trivial, trivial⟩
    | exact ⟨rfl, rfl⟩
    | (refine ⟨by assumption, ?_⟩; (try simp only [cntRs, Nat.add_zero]); omega)
    | ((try simp only [cntRs, Nat.add_zero]); omega)
    | trace_state
theorem c_laws_eqSpan (a0 : Int) (a1 : Int) (a2 : Int) (d : DV) (hp : d = .agg [.v (.int .i64 a0), .v (.int .i64 a1), .v (.int .i64 a2)]) : Ctr Try.prog 80 [.agg [.v (.int .i64 a0), .v (.int .i64 a1), .v (.int .i64 a2)], d] [.one (.v (.bool true))] := by
  subst hp
  refine ctr_of (ctF := LSpan.ct) (mtF := LSpan.mt) (ptF := LSpan.pt) (F0 := LSpan.F0) tabOk LSpan.ct_ok LSpan.mt_ok LSpan.pt_ok mixed 20 _ [4] [.tmp 4] Try.func80 rfl rfl rfl rfl rfl ?_
  intro O r F hO hr hF
  cbv
  repeat' first | refine And.intro ?_ ?_ | (refine caseB_intro (fun hb => ?_) (fun hb => ?_) <;> cbv)
  all_goals ((try subst hos); subst hO hr hF; (try simp only [stdO, SS, sub_all, ad_zero] at *); (try simp only [ncast] at *); (try simp only [Int.ofNat_eq_natCast] at *))
  all_goals (try simp only [LSpan.F0] at *)
  all_goals first
    | trivial
    | exact rfl
    | exact absurd rfl hb
    | exact absurd rfl (by assumption)
    | (refine ⟨trivial, by assumption, ?_⟩; (try simp only [cntRs, Nat.add_zero]); omega)
    | (refine ⟨trivial, ?_⟩; (try simp only [cntRs, Nat.add_zero]); omega)
    | trace_state
namespace LSpanS
structure Fns where
  no : Unit
def F0 : Fns := ⟨()⟩
def ct (F : Fns) : CT := fun f ds => match f, ds with
  | 69, [.agg [.v (.int .i64 a0), .v (.int .i64 a1), .v (.int .i64 a2)]] => some (fun _ => True, [.agg [.v (.int .i64 a0), .v (.int .i64 a1), .v (.int .i64 a2)]])
  | 80, [.agg [.v (.int .i64 a0), .v (.int .i64 a1), .v (.int .i64 a2)], d] => some (fun _ => d = .agg [.v (.int .i64 a0), .v (.int .i64 a1), .v (.int .i64 a2)], [.one (.v (.bool true))])
  | _, _ => none
theorem ct_ok : CTok Try.prog (ct F0) := by
  intro f ds pre res h hp
  unfold ct at h
  split at h
  · cases h; exact c_laws_toSpan _ _ _ hp
  · cases h; exact c_laws_eqSpan _ _ _ _ hp
  · cases h
def mt : Fns → MT := noMT
theorem mt_ok : MTok Try.prog (mt F0) := noMT_ok
def pt : Fns → PT := noPT
theorem pt_ok : PTok Try.prog (pt F0) := noPT_ok
end LSpanS
theorem c_laws_szSpanS (es : List (List L)) (left : Int) (hp : Rw [tI, tI, tI] es ∧ 0 ≤ left ∧ left ≤ 1048576) : Ctr Try.prog 23 [.one (.s 3 es), .one (.v (.int .i64 left))] [.one (.v (.int .i64 (szN0 [es] left)))] := by
  obtain ⟨hw, h0, h1⟩ := hp
  have hc : cntE es = es.length := hw.cnt rfl
  have hm := hw.1; unfold maxLen at hm
  have hs : arI .sub .i64 left es.length = left - es.length := sub64 (by omega)
  have hn : szN0 [es] left = if left < es.length then -1 else left - es.length := by unfold szN0; rw [cntRs_one, hc]
  refine ctr_of (ctF := LSpanS.ct) (mtF := LSpanS.mt) (ptF := LSpanS.pt) (F0 := LSpanS.F0) tabOk LSpanS.ct_ok LSpanS.mt_ok LSpanS.pt_ok mixed 12 _ [3] [.tmp 4] Try.func23 rfl rfl rfl rfl rfl ?_
  intro O r F hO hr hF
  cbv
  repeat' first | refine And.intro ?_ ?_ | (refine caseB_intro (fun hb => ?_) (fun hb => ?_) <;> cbv)
  all_goals ((try subst hos); subst hO hr hF; (try simp only [stdO, SS, sub_all, ad_zero] at *); (try simp only [ncast] at *); (try simp only [Int.ofNat_eq_natCast] at *))
  all_goals (try simp only [hs, LSpanS.F0] at *)
  all_goals first | trivial | (rw [hn, if_pos (by omega)]) | (rw [hn, if_neg (by omega)])
theorem c_laws_toSpanS (es : List (List L)) (hp : Rw [tI, tI, tI] es ∧ cntE es ≤ 1048576) : Ctr Try.prog 32 [.one (.s 3 es)] [.one (.s 3 es)] := by
  obtain ⟨hw, hlim⟩ := hp
  have hwf : Wf [.v (.int .i64 0), .v (.int .i64 0), .v (.int .i64 0)] es := hw.wf
  have hlen : es.length ≤ 1048576 := Nat.le_trans (Nat.le_add_right _ _) hlim
  refine ctr_of (ctF := LSpanS.ct) (mtF := LSpanS.mt) (ptF := LSpanS.pt) (F0 := LSpanS.F0) tabOk LSpanS.ct_ok LSpanS.mt_ok LSpanS.pt_ok mixed 23 _ [62] [.tmp 2] Try.func32 rfl rfl rfl rfl rfl ?_
  intro O r F hO hr hF
  cbv
  have h0z : fillR es [.v (.int .i64 0), .v (.int .i64 0), .v (.int .i64 0)] 0 = O.rep (O.zi (O.ln es)) [.v (.int .i64 0), .v (.int .i64 0), .v (.int .i64 0)] := by
    subst hO
    rw [fillR_zero]; rfl
  refine ⟨?_, ?_, [0, 3, 4], [3], Int × List (List L), fun s => [.reg 4 (.one (.v (.int .i64 s.1))), .leaf 3 0 ⟨0, 0, none, .own (.s 3 s.2)⟩], fun s => 0 ≤ s.1 ∧ s.1.toNat ≤ es.length ∧ s.2 = fillR es [.v (.int .i64 0), .v (.int .i64 0), .v (.int .i64 0)] s.1.toNat, fun s => es.length - s.1.toNat, ⟨(0, O.rep (O.zi (O.ln es)) [.v (.int .i64 0), .v (.int .i64 0), .v (.int .i64 0)]), ?_, ?_⟩, ?_⟩
  · subst hO
    exact mk_ok (b := 24) (show es.length * _ ≤ _ by omega) (show es.length ≤ _ by omega)
  · subst hO
    exact ⟨rfl, rfl⟩
  · exact ⟨by omega, Nat.zero_le _, h0z.symm⟩
  · cbv
  · rintro ⟨i, m⟩ hi
    replace hi : 0 ≤ i ∧ i.toNat ≤ es.length ∧ m = fillR es [.v (.int .i64 0), .v (.int .i64 0), .v (.int .i64 0)] i.toNat := hi
    obtain ⟨g0, g1, hm⟩ := hi
    cbv
    repeat' first | refine And.intro ?_ ?_ | (refine caseB_intro (fun hb => ?_) (fun hb => ?_) <;> cbv) | (refine loop_step (O.ar .add .i64 i 1, O.up (.s 3 m) [(O.ad 0 i, 0)] [.v (.int .i64 (O.gi es i 0)), .v (.int .i64 (O.gi es i 1)), .v (.int .i64 (O.gi es i 2))]) ?_ ?_ ?_; rotate_left 2; focus (cbv; done))
    all_goals ((try subst hos); subst hO hr hF; (try simp only [stdO, SS, sub_all, ad_zero] at *); (try simp only [ncast] at *); (try simp only [Int.ofNat_eq_natCast] at *))
    all_goals (try simp only [LSpanS.F0, repI, List.length_replicate, Int.toNat_natCast] at *)
    all_goals try have hlt : i < es.length := by assumption
    all_goals try rw [inc64 (n := es.length) g0 hlt (by omega)]
    all_goals try have he : es.getD i.toNat [] = [.v (.int .i64 (giI es i 0)), .v (.int .i64 (giI es i 1)), .v (.int .i64 (giI es i 2))] := (etaE_whole hwf g0 hlt).symm
    all_goals try have hct := cntE_at (es := es) (n := i.toNat) (by omega); rw [he] at hct; simp only [cntR, cntL, Nat.add_zero, Nat.zero_add] at hct
    all_goals have hle1 := cntEs_take_le (es := es) (n := i.toNat + 1)
    all_goals have hcE : cntE es = es.length + cntEs es := rfl
    all_goals first
      | exact row_ro hwf g0 hlt
      | exact ⟨g0, hlt⟩
      | (rw [hm]; exact getR_some (by rw [fillR_length g1]; omega) (by rw [fillR_getD (by omega)]; exact Nat.le_refl _))
      | omega
      | (rw [show (i + 1).toNat = i.toNat + 1 from by omega, ← fillR_set (by omega), ← hm, upI_one (by rw [hm, fillR_getD (by omega)]; rfl), he])
      | (rw [hm, fillR_length g1]; exact ⟨trivial, rfl⟩)
      | (rw [hm, show i.toNat = es.length from by omega, fillR_all])
      | trivial
      | exact ⟨trivial, trivial⟩
      | (refine ⟨?_⟩; simp only [cntRs, cntE, Nat.add_zero]; omega)
      | trace_state
theorem c_laws_eqSpanS (es : List (List L)) (d : DV) (hp : d = .one (.s 3 es) ∧ Rw [tI, tI, tI] es ∧ cntE es ≤ 1099511627776) : Ctr Try.prog 41 [.one (.s 3 es), d] [.one (.v (.bool true))] := by
  obtain ⟨rfl, hw, hlim⟩ := hp
  have hwf : Wf [.v (.int .i64 0), .v (.int .i64 0), .v (.int .i64 0)] es := hw.wf
  have hlen : es.length ≤ 1099511627776 := Nat.le_trans (Nat.le_add_right _ _) hlim
  refine ctr_of (ctF := LSpanS.ct) (mtF := LSpanS.mt) (ptF := LSpanS.pt) (F0 := LSpanS.F0) tabOk LSpanS.ct_ok LSpanS.mt_ok LSpanS.pt_ok mixed 27 _ [4] [.tmp 4] Try.func41 rfl rfl rfl rfl rfl ?_
  intro O r F hO hr hF
  cbv
  refine caseB_intro (fun hb => ?_) (fun hb => ?_) <;> cbv
  · ((try subst hos); subst hO hr hF; (try simp only [stdO, SS, sub_all, ad_zero] at *); (try simp only [ncast] at *); (try simp only [Int.ofNat_eq_natCast] at *)); exact absurd rfl hb
  · clear hb
    refine ⟨[0, 1, 5], [], Int, fun i => [.reg 5 (.one (.v (.int .i64 i)))], fun i => 0 ≤ i ∧ i.toNat ≤ es.length, fun i => es.length - i.toNat, ⟨0, ?_, ?_⟩, ?_⟩
    · exact ⟨by omega, Nat.zero_le _⟩
    · cbv
    · rintro i hi
      replace hi : 0 ≤ i ∧ i.toNat ≤ es.length := hi
      obtain ⟨g0, g1⟩ := hi
      cbv
      repeat' first | refine And.intro ?_ ?_ | (refine caseB_intro (fun hb => ?_) (fun hb => ?_) <;> cbv) | (refine loop_step (O.ar .add .i64 i 1) ?_ ?_ ?_; rotate_left 2; focus (cbv; done))
      all_goals ((try subst hos); subst hO hr hF; (try simp only [stdO, SS, sub_all, ad_zero] at *); (try simp only [ncast] at *); (try simp only [Int.ofNat_eq_natCast] at *))
      all_goals (try simp only [LSpanS.F0] at *)
      all_goals try have hlt : i < es.length := by assumption
      all_goals try rw [inc64 (n := es.length) g0 hlt (by omega)]
      all_goals try have he : es.getD i.toNat [] = [.v (.int .i64 (giI es i 0)), .v (.int .i64 (giI es i 1)), .v (.int .i64 (giI es i 2))] := (etaE_whole hwf g0 hlt).symm
      all_goals try have hct := cntE_at (es := es) (n := i.toNat) (by omega); rw [he] at hct; simp only [cntR, cntL, Nat.add_zero, Nat.zero_add] at hct
      all_goals have hle1 := cntEs_take_le (es := es) (n := i.toNat + 1)
      all_goals have hcE : cntE es = es.length + cntEs es := rfl
      all_goals first
        | omega
        | exact row_ro hwf g0 hlt
        | exact absurd rfl hb
        | exact absurd rfl (by assumption)
        | trivial
        | kernel_rfl
        | exact ⟨trivial, trivial⟩
        | (refine ⟨trivial, ?_⟩; simp only [cntRs, cntE, Nat.add_zero]; omega)
        | trace_state
namespace LLarge
structure Fns where
  no : Unit
def F0 : Fns := ⟨()⟩
def ct : Fns → CT := noC
theorem ct_ok : CTok Try.prog (ct F0) := noC_ok
def mt : Fns → MT := noMT
theorem mt_ok : MTok Try.prog (mt F0) := noMT_ok
def pt : Fns → PT := noPT
theorem pt_ok : PTok Try.prog (pt F0) := noPT_ok
end LLarge
theorem c_laws_toLarge (a0 : Int) (a1 : Int) (a2 : Int) (hp : True) : Ctr Try.prog 70 [.agg [.v (.int .i64 a0), .v (.int .i64 a1), .v (.int .i64 a2)]] [.agg [.v (.int .i64 a0), .v (.int .i64 a1), .v (.int .i64 a2)]] := by

  refine ctr_of (ctF := LLarge.ct) (mtF := LLarge.mt) (ptF := LLarge.pt) (F0 := LLarge.F0) tabOk LLarge.ct_ok LLarge.mt_ok LLarge.pt_ok mixed 14 _ [139] [.cell 2 139] Try.func70 rfl rfl rfl rfl rfl ?_
  intro O r F hO hr hF
  cbv
  repeat' first | refine And.intro ?_ ?_ | (refine caseB_intro (fun hb => ?_) (fun hb => ?_) <;> cbv)
  all_goals ((try subst hos); subst hO hr hF; (try simp only [stdO, SS, sub_all, ad_zero] at *); (try simp only [ncast] at *); (try simp only [Int.ofNat_eq_natCast] at *))
  all_goals (try simp only [LLarge.F0] at *)
  all_goals first
    | trivial
    | exact rfl
    | exact ⟨trivial, trivial⟩
    | exact ⟨rfl, rfl⟩
    | (refine ⟨by assumption, ?_⟩; (try simp only [cntRs, Nat.add_zero]); omega)
    | ((try simp only [cntRs, Nat.add_zero]); omega)
    | trace_state
theorem c_laws_eqLarge (a0 : Int) (a1 : Int) (a2 : Int) (d : DV) (hp : d = .agg [.v (.int .i64 a0), .v (.int .i64 a1), .v (.int .i64 a2)]) : Ctr Try.prog 81 [.agg [.v (.int .i64 a0), .v (.int .i64 a1), .v (.int .i64 a2)], d] [.one (.v (.bool true))] := by
  subst hp
  refine ctr_of (ctF := LLarge.ct) (mtF := LLarge.mt) (ptF := LLarge.pt) (F0 := LLarge.F0) tabOk LLarge.ct_ok LLarge.mt_ok LLarge.pt_ok mixed 20 _ [4] [.tmp 4] Try.func81 rfl rfl rfl rfl rfl ?_
  intro O r F hO hr hF
  cbv
  repeat' first | refine And.intro ?_ ?_ | (refine caseB_intro (fun hb => ?_) (fun hb => ?_) <;> cbv)
  all_goals ((try subst hos); subst hO hr hF; (try simp only [stdO, SS, sub_all, ad_zero] at *); (try simp only [ncast] at *); (try simp only [Int.ofNat_eq_natCast] at *))
  all_goals (try simp only [LLarge.F0] at *)
  all_goals first
    | trivial
    | exact rfl
    | exact absurd rfl hb
    | exact absurd rfl (by assumption)
    | (refine ⟨trivial, by assumption, ?_⟩; (try simp only [cntRs, Nat.add_zero]); omega)
    | (refine ⟨trivial, ?_⟩; (try simp only [cntRs, Nat.add_zero]); omega)
    | trace_state
namespace LLargeS
structure Fns where
  no : Unit
def F0 : Fns := ⟨()⟩
def ct (F : Fns) : CT := fun f ds => match f, ds with
  | 70, [.agg [.v (.int .i64 a0), .v (.int .i64 a1), .v (.int .i64 a2)]] => some (fun _ => True, [.agg [.v (.int .i64 a0), .v (.int .i64 a1), .v (.int .i64 a2)]])
  | 81, [.agg [.v (.int .i64 a0), .v (.int .i64 a1), .v (.int .i64 a2)], d] => some (fun _ => d = .agg [.v (.int .i64 a0), .v (.int .i64 a1), .v (.int .i64 a2)], [.one (.v (.bool true))])
  | _, _ => none
theorem ct_ok : CTok Try.prog (ct F0) := by
  intro f ds pre res h hp
  unfold ct at h
  split at h
  · cases h; exact c_laws_toLarge _ _ _ hp
  · cases h; exact c_laws_eqLarge _ _ _ _ hp
  · cases h
def mt : Fns → MT := noMT
theorem mt_ok : MTok Try.prog (mt F0) := noMT_ok
def pt : Fns → PT := noPT
theorem pt_ok : PTok Try.prog (pt F0) := noPT_ok
end LLargeS
theorem c_laws_szLargeS (es : List (List L)) (left : Int) (hp : Rw [tI, tI, tI] es ∧ 0 ≤ left ∧ left ≤ 1048576) : Ctr Try.prog 24 [.one (.s 3 es), .one (.v (.int .i64 left))] [.one (.v (.int .i64 (szN0 [es] left)))] := by
  obtain ⟨hw, h0, h1⟩ := hp
  have hc : cntE es = es.length := hw.cnt rfl
  have hm := hw.1; unfold maxLen at hm
  have hs : arI .sub .i64 left es.length = left - es.length := sub64 (by omega)
  have hn : szN0 [es] left = if left < es.length then -1 else left - es.length := by unfold szN0; rw [cntRs_one, hc]
  refine ctr_of (ctF := LLargeS.ct) (mtF := LLargeS.mt) (ptF := LLargeS.pt) (F0 := LLargeS.F0) tabOk LLargeS.ct_ok LLargeS.mt_ok LLargeS.pt_ok mixed 12 _ [3] [.tmp 4] Try.func24 rfl rfl rfl rfl rfl ?_
  intro O r F hO hr hF
  cbv
  repeat' first | refine And.intro ?_ ?_ | (refine caseB_intro (fun hb => ?_) (fun hb => ?_) <;> cbv)
  all_goals ((try subst hos); subst hO hr hF; (try simp only [stdO, SS, sub_all, ad_zero] at *); (try simp only [ncast] at *); (try simp only [Int.ofNat_eq_natCast] at *))
  all_goals (try simp only [hs, LLargeS.F0] at *)
  all_goals first | trivial | (rw [hn, if_pos (by omega)]) | (rw [hn, if_neg (by omega)])
theorem c_laws_toLargeS (es : List (List L)) (hp : Rw [tI, tI, tI] es ∧ cntE es ≤ 1048576) : Ctr Try.prog 33 [.one (.s 3 es)] [.one (.s 3 es)] := by
  obtain ⟨hw, hlim⟩ := hp
  have hwf : Wf [.v (.int .i64 0), .v (.int .i64 0), .v (.int .i64 0)] es := hw.wf
  have hlen : es.length ≤ 1048576 := Nat.le_trans (Nat.le_add_right _ _) hlim
  refine ctr_of (ctF := LLargeS.ct) (mtF := LLargeS.mt) (ptF := LLargeS.pt) (F0 := LLargeS.F0) tabOk LLargeS.ct_ok LLargeS.mt_ok LLargeS.pt_ok mixed 23 _ [63] [.tmp 2] Try.func33 rfl rfl rfl rfl rfl ?_
  intro O r F hO hr hF
  cbv
  have h0z : fillR es [.v (.int .i64 0), .v (.int .i64 0), .v (.int .i64 0)] 0 = O.rep (O.zi (O.ln es)) [.v (.int .i64 0), .v (.int .i64 0), .v (.int .i64 0)] := by
    subst hO
    rw [fillR_zero]; rfl
  refine ⟨?_, ?_, [0, 3, 4], [3], Int × List (List L), fun s => [.reg 4 (.one (.v (.int .i64 s.1))), .leaf 3 0 ⟨0, 0, none, .own (.s 3 s.2)⟩], fun s => 0 ≤ s.1 ∧ s.1.toNat ≤ es.length ∧ s.2 = fillR es [.v (.int .i64 0), .v (.int .i64 0), .v (.int .i64 0)] s.1.toNat, fun s => es.length - s.1.toNat, ⟨(0, O.rep (O.zi (O.ln es)) [.v (.int .i64 0), .v (.int .i64 0), .v (.int .i64 0)]), ?_, ?_⟩, ?_⟩
  · subst hO
    exact mk_ok (b := 24) (show es.length * _ ≤ _ by omega) (show es.length ≤ _ by omega)
  · subst hO
    exact ⟨rfl, rfl⟩
  · exact ⟨by omega, Nat.zero_le _, h0z.symm⟩
  · cbv
  · rintro ⟨i, m⟩ hi
    replace hi : 0 ≤ i ∧ i.toNat ≤ es.length ∧ m = fillR es [.v (.int .i64 0), .v (.int .i64 0), .v (.int .i64 0)] i.toNat := hi
    obtain ⟨g0, g1, hm⟩ := hi
    cbv
    repeat' first | refine And.intro ?_ ?_ | (refine caseB_intro (fun hb => ?_) (fun hb => ?_) <;> cbv) | (refine loop_step (O.ar .add .i64 i 1, O.up (.s 3 m) [(O.ad 0 i, 0)] [.v (.int .i64 (O.gi es i 0)), .v (.int .i64 (O.gi es i 1)), .v (.int .i64 (O.gi es i 2))]) ?_ ?_ ?_; rotate_left 2; focus (cbv; done))
    all_goals ((try subst hos); subst hO hr hF; (try simp only [stdO, SS, sub_all, ad_zero] at *); (try simp only [ncast] at *); (try simp only [Int.ofNat_eq_natCast] at *))
    all_goals (try simp only [LLargeS.F0, repI, List.length_replicate, Int.toNat_natCast] at *)
    all_goals try have hlt : i < es.length := by assumption
    all_goals try rw [inc64 (n := es.length) g0 hlt (by omega)]
    all_goals try have he : es.getD i.toNat [] = [.v (.int .i64 (giI es i 0)), .v (.int .i64 (giI es i 1)), .v (.int .i64 (giI es i 2))] := (etaE_whole hwf g0 hlt).symm
    all_goals try have hct := cntE_at (es := es) (n := i.toNat) (by omega); rw [he] at hct; simp only [cntR, cntL, Nat.add_zero, Nat.zero_add] at hct
    all_goals have hle1 := cntEs_take_le (es := es) (n := i.toNat + 1)
    all_goals have hcE : cntE es = es.length + cntEs es := rfl
    all_goals first
      | exact row_ro hwf g0 hlt
      | exact ⟨g0, hlt⟩
      | (rw [hm]; exact getR_some (by rw [fillR_length g1]; omega) (by rw [fillR_getD (by omega)]; exact Nat.le_refl _))
      | omega
      | (rw [show (i + 1).toNat = i.toNat + 1 from by omega, ← fillR_set (by omega), ← hm, upI_one (by rw [hm, fillR_getD (by omega)]; rfl), he])
      | (rw [hm, fillR_length g1]; exact ⟨trivial, rfl⟩)
      | (rw [hm, show i.toNat = es.length from by omega, fillR_all])
      | trivial
      | exact ⟨trivial, trivial⟩
      | (refine ⟨?_⟩; simp only [cntRs, cntE, Nat.add_zero]; omega)
      | trace_state
theorem c_laws_eqLargeS (es : List (List L)) (d : DV) (hp : d = .one (.s 3 es) ∧ Rw [tI, tI, tI] es ∧ cntE es ≤ 1099511627776) : Ctr Try.prog 42 [.one (.s 3 es), d] [.one (.v (.bool true))] := by
  obtain ⟨rfl, hw, hlim⟩ := hp
  have hwf : Wf [.v (.int .i64 0), .v (.int .i64 0), .v (.int .i64 0)] es := hw.wf
  have hlen : es.length ≤ 1099511627776 := Nat.le_trans (Nat.le_add_right _ _) hlim
  refine ctr_of (ctF := LLargeS.ct) (mtF := LLargeS.mt) (ptF := LLargeS.pt) (F0 := LLargeS.F0) tabOk LLargeS.ct_ok LLargeS.mt_ok LLargeS.pt_ok mixed 27 _ [4] [.tmp 4] Try.func42 rfl rfl rfl rfl rfl ?_
  intro O r F hO hr hF
  cbv
  refine caseB_intro (fun hb => ?_) (fun hb => ?_) <;> cbv
  · ((try subst hos); subst hO hr hF; (try simp only [stdO, SS, sub_all, ad_zero] at *); (try simp only [ncast] at *); (try simp only [Int.ofNat_eq_natCast] at *)); exact absurd rfl hb
  · clear hb
    refine ⟨[0, 1, 5], [], Int, fun i => [.reg 5 (.one (.v (.int .i64 i)))], fun i => 0 ≤ i ∧ i.toNat ≤ es.length, fun i => es.length - i.toNat, ⟨0, ?_, ?_⟩, ?_⟩
    · exact ⟨by omega, Nat.zero_le _⟩
    · cbv
    · rintro i hi
      replace hi : 0 ≤ i ∧ i.toNat ≤ es.length := hi
      obtain ⟨g0, g1⟩ := hi
      cbv
      repeat' first | refine And.intro ?_ ?_ | (refine caseB_intro (fun hb => ?_) (fun hb => ?_) <;> cbv) | (refine loop_step (O.ar .add .i64 i 1) ?_ ?_ ?_; rotate_left 2; focus (cbv; done))
      all_goals ((try subst hos); subst hO hr hF; (try simp only [stdO, SS, sub_all, ad_zero] at *); (try simp only [ncast] at *); (try simp only [Int.ofNat_eq_natCast] at *))
      all_goals (try simp only [LLargeS.F0] at *)
      all_goals try have hlt : i < es.length := by assumption
      all_goals try rw [inc64 (n := es.length) g0 hlt (by omega)]
      all_goals try have he : es.getD i.toNat [] = [.v (.int .i64 (giI es i 0)), .v (.int .i64 (giI es i 1)), .v (.int .i64 (giI es i 2))] := (etaE_whole hwf g0 hlt).symm
      all_goals try have hct := cntE_at (es := es) (n := i.toNat) (by omega); rw [he] at hct; simp only [cntR, cntL, Nat.add_zero, Nat.zero_add] at hct
      all_goals have hle1 := cntEs_take_le (es := es) (n := i.toNat + 1)
      all_goals have hcE : cntE es = es.length + cntEs es := rfl
      all_goals first
        | omega
        | exact row_ro hwf g0 hlt
        | exact absurd rfl hb
        | exact absurd rfl (by assumption)
        | trivial
        | kernel_rfl
        | exact ⟨trivial, trivial⟩
        | (refine ⟨trivial, ?_⟩; simp only [cntRs, cntE, Nat.add_zero]; omega)
        | trace_state
namespace LObj
structure Fns where
  no : Unit
def F0 : Fns := ⟨()⟩
def ct : Fns → CT := noC
theorem ct_ok : CTok Try.prog (ct F0) := noC_ok
def mt : Fns → MT := noMT
theorem mt_ok : MTok Try.prog (mt F0) := noMT_ok
def pt : Fns → PT := noPT
theorem pt_ok : PTok Try.prog (pt F0) := noPT_ok
end LObj
theorem c_laws_toObj (a0 : Int) (a1 : Int) (a2 : Int) (a3 : Int) (hp : True) : Ctr Try.prog 71 [.agg [.v (.int .i64 a0), .v (.int .i64 a1), .v (.int .i64 a2), .v (.int .i64 a3)]] [.agg [.v (.int .i64 a0), .v (.int .i64 a1), .v (.int .i64 a2), .v (.int .i64 a3)]] := by

  refine ctr_of (ctF := LObj.ct) (mtF := LObj.mt) (ptF := LObj.pt) (F0 := LObj.F0) tabOk LObj.ct_ok LObj.mt_ok LObj.pt_ok mixed 17 _ [92] [.cell 2 92] Try.func71 rfl rfl rfl rfl rfl ?_
  intro O r F hO hr hF
  cbv
  repeat' first | refine And.intro ?_ ?_ | (refine caseB_intro (fun hb => ?_) (fun hb => ?_) <;> cbv)
  all_goals ((try subst hos); subst hO hr hF; (try simp only [stdO, SS, sub_all, ad_zero] at *); (try simp only [ncast] at *); (try simp only [Int.ofNat_eq_natCast] at *))
  all_goals (try simp only [LObj.F0] at *)
  all_goals first
    | trivial
    | exact rfl
    | exact ⟨trivial, trivial⟩
    | exact ⟨rfl, rfl⟩
    | (refine ⟨by assumption, ?_⟩; (try simp only [cntRs, Nat.add_zero]); omega)
    | ((try simp only [cntRs, Nat.add_zero]); omega)
    | trace_state
theorem c_laws_eqObj (a0 : Int) (a1 : Int) (a2 : Int) (a3 : Int) (d : DV) (hp : d = .agg [.v (.int .i64 a0), .v (.int .i64 a1), .v (.int .i64 a2), .v (.int .i64 a3)]) : Ctr Try.prog 82 [.agg [.v (.int .i64 a0), .v (.int .i64 a1), .v (.int .i64 a2), .v (.int .i64 a3)], d] [.one (.v (.bool true))] := by
  subst hp
  refine ctr_of (ctF := LObj.ct) (mtF := LObj.mt) (ptF := LObj.pt) (F0 := LObj.F0) tabOk LObj.ct_ok LObj.mt_ok LObj.pt_ok mixed 25 _ [4] [.tmp 4] Try.func82 rfl rfl rfl rfl rfl ?_
  intro O r F hO hr hF
  cbv
  repeat' first | refine And.intro ?_ ?_ | (refine caseB_intro (fun hb => ?_) (fun hb => ?_) <;> cbv)
  all_goals ((try subst hos); subst hO hr hF; (try simp only [stdO, SS, sub_all, ad_zero] at *); (try simp only [ncast] at *); (try simp only [Int.ofNat_eq_natCast] at *))
  all_goals (try simp only [LObj.F0] at *)
  all_goals first
    | trivial
    | exact rfl
    | exact absurd rfl hb
    | exact absurd rfl (by assumption)
    | (refine ⟨trivial, by assumption, ?_⟩; (try simp only [cntRs, Nat.add_zero]); omega)
    | (refine ⟨trivial, ?_⟩; (try simp only [cntRs, Nat.add_zero]); omega)
    | trace_state
namespace LObjS
structure Fns where
  no : Unit
def F0 : Fns := ⟨()⟩
def ct (F : Fns) : CT := fun f ds => match f, ds with
  | 71, [.agg [.v (.int .i64 a0), .v (.int .i64 a1), .v (.int .i64 a2), .v (.int .i64 a3)]] => some (fun _ => True, [.agg [.v (.int .i64 a0), .v (.int .i64 a1), .v (.int .i64 a2), .v (.int .i64 a3)]])
  | 82, [.agg [.v (.int .i64 a0), .v (.int .i64 a1), .v (.int .i64 a2), .v (.int .i64 a3)], d] => some (fun _ => d = .agg [.v (.int .i64 a0), .v (.int .i64 a1), .v (.int .i64 a2), .v (.int .i64 a3)], [.one (.v (.bool true))])
  | _, _ => none
theorem ct_ok : CTok Try.prog (ct F0) := by
  intro f ds pre res h hp
  unfold ct at h
  split at h
  · cases h; exact c_laws_toObj _ _ _ _ hp
  · cases h; exact c_laws_eqObj _ _ _ _ _ hp
  · cases h
def mt : Fns → MT := noMT
theorem mt_ok : MTok Try.prog (mt F0) := noMT_ok
def pt : Fns → PT := noPT
theorem pt_ok : PTok Try.prog (pt F0) := noPT_ok
end LObjS
theorem c_laws_szObjS (es : List (List L)) (left : Int) (hp : Rw [tI, tI, tI, tI] es ∧ 0 ≤ left ∧ left ≤ 1048576) : Ctr Try.prog 25 [.one (.s 4 es), .one (.v (.int .i64 left))] [.one (.v (.int .i64 (szN0 [es] left)))] := by
  obtain ⟨hw, h0, h1⟩ := hp
  have hc : cntE es = es.length := hw.cnt rfl
  have hm := hw.1; unfold maxLen at hm
  have hs : arI .sub .i64 left es.length = left - es.length := sub64 (by omega)
  have hn : szN0 [es] left = if left < es.length then -1 else left - es.length := by unfold szN0; rw [cntRs_one, hc]
  refine ctr_of (ctF := LObjS.ct) (mtF := LObjS.mt) (ptF := LObjS.pt) (F0 := LObjS.F0) tabOk LObjS.ct_ok LObjS.mt_ok LObjS.pt_ok mixed 12 _ [3] [.tmp 4] Try.func25 rfl rfl rfl rfl rfl ?_
  intro O r F hO hr hF
  cbv
  repeat' first | refine And.intro ?_ ?_ | (refine caseB_intro (fun hb => ?_) (fun hb => ?_) <;> cbv)
  all_goals ((try subst hos); subst hO hr hF; (try simp only [stdO, SS, sub_all, ad_zero] at *); (try simp only [ncast] at *); (try simp only [Int.ofNat_eq_natCast] at *))
  all_goals (try simp only [hs, LObjS.F0] at *)
  all_goals first | trivial | (rw [hn, if_pos (by omega)]) | (rw [hn, if_neg (by omega)])
theorem c_laws_toObjS (es : List (List L)) (hp : Rw [tI, tI, tI, tI] es ∧ cntE es ≤ 1048576) : Ctr Try.prog 34 [.one (.s 4 es)] [.one (.s 4 es)] := by
  obtain ⟨hw, hlim⟩ := hp
  have hwf : Wf [.v (.int .i64 0), .v (.int .i64 0), .v (.int .i64 0), .v (.int .i64 0)] es := hw.wf
  have hlen : es.length ≤ 1048576 := Nat.le_trans (Nat.le_add_right _ _) hlim
  refine ctr_of (ctF := LObjS.ct) (mtF := LObjS.mt) (ptF := LObjS.pt) (F0 := LObjS.F0) tabOk LObjS.ct_ok LObjS.mt_ok LObjS.pt_ok mixed 23 _ [64] [.tmp 2] Try.func34 rfl rfl rfl rfl rfl ?_
  intro O r F hO hr hF
  cbv
  have h0z : fillR es [.v (.int .i64 0), .v (.int .i64 0), .v (.int .i64 0), .v (.int .i64 0)] 0 = O.rep (O.zi (O.ln es)) [.v (.int .i64 0), .v (.int .i64 0), .v (.int .i64 0), .v (.int .i64 0)] := by
    subst hO
    rw [fillR_zero]; rfl
  refine ⟨?_, ?_, [0, 3, 4], [3], Int × List (List L), fun s => [.reg 4 (.one (.v (.int .i64 s.1))), .leaf 3 0 ⟨0, 0, none, .own (.s 4 s.2)⟩], fun s => 0 ≤ s.1 ∧ s.1.toNat ≤ es.length ∧ s.2 = fillR es [.v (.int .i64 0), .v (.int .i64 0), .v (.int .i64 0), .v (.int .i64 0)] s.1.toNat, fun s => es.length - s.1.toNat, ⟨(0, O.rep (O.zi (O.ln es)) [.v (.int .i64 0), .v (.int .i64 0), .v (.int .i64 0), .v (.int .i64 0)]), ?_, ?_⟩, ?_⟩
  · subst hO
    exact mk_ok (b := 32) (show es.length * _ ≤ _ by omega) (show es.length ≤ _ by omega)
  · subst hO
    exact ⟨rfl, rfl⟩
  · exact ⟨by omega, Nat.zero_le _, h0z.symm⟩
  · cbv
  · rintro ⟨i, m⟩ hi
    replace hi : 0 ≤ i ∧ i.toNat ≤ es.length ∧ m = fillR es [.v (.int .i64 0), .v (.int .i64 0), .v (.int .i64 0), .v (.int .i64 0)] i.toNat := hi
    obtain ⟨g0, g1, hm⟩ := hi
    cbv
    repeat' first | refine And.intro ?_ ?_ | (refine caseB_intro (fun hb => ?_) (fun hb => ?_) <;> cbv) | (refine loop_step (O.ar .add .i64 i 1, O.up (.s 4 m) [(O.ad 0 i, 0)] [.v (.int .i64 (O.gi es i 0)), .v (.int .i64 (O.gi es i 1)), .v (.int .i64 (O.gi es i 2)), .v (.int .i64 (O.gi es i 3))]) ?_ ?_ ?_; rotate_left 2; focus (cbv; done))
    all_goals ((try subst hos); subst hO hr hF; (try simp only [stdO, SS, sub_all, ad_zero] at *); (try simp only [ncast] at *); (try simp only [Int.ofNat_eq_natCast] at *))
    all_goals (try simp only [LObjS.F0, repI, List.length_replicate, Int.toNat_natCast] at *)
    all_goals try have hlt : i < es.length := by assumption
    all_goals try rw [inc64 (n := es.length) g0 hlt (by omega)]
    all_goals try have he : es.getD i.toNat [] = [.v (.int .i64 (giI es i 0)), .v (.int .i64 (giI es i 1)), .v (.int .i64 (giI es i 2)), .v (.int .i64 (giI es i 3))] := (etaE_whole hwf g0 hlt).symm
    all_goals try have hct := cntE_at (es := es) (n := i.toNat) (by omega); rw [he] at hct; simp only [cntR, cntL, Nat.add_zero, Nat.zero_add] at hct
    all_goals have hle1 := cntEs_take_le (es := es) (n := i.toNat + 1)
    all_goals have hcE : cntE es = es.length + cntEs es := rfl
    all_goals first
      | exact row_ro hwf g0 hlt
      | exact ⟨g0, hlt⟩
      | (rw [hm]; exact getR_some (by rw [fillR_length g1]; omega) (by rw [fillR_getD (by omega)]; exact Nat.le_refl _))
      | omega
      | (rw [show (i + 1).toNat = i.toNat + 1 from by omega, ← fillR_set (by omega), ← hm, upI_one (by rw [hm, fillR_getD (by omega)]; rfl), he])
      | (rw [hm, fillR_length g1]; exact ⟨trivial, rfl⟩)
      | (rw [hm, show i.toNat = es.length from by omega, fillR_all])
      | trivial
      | exact ⟨trivial, trivial⟩
      | (refine ⟨?_⟩; simp only [cntRs, cntE, Nat.add_zero]; omega)
      | trace_state
theorem c_laws_eqObjS (es : List (List L)) (d : DV) (hp : d = .one (.s 4 es) ∧ Rw [tI, tI, tI, tI] es ∧ cntE es ≤ 1099511627776) : Ctr Try.prog 43 [.one (.s 4 es), d] [.one (.v (.bool true))] := by
  obtain ⟨rfl, hw, hlim⟩ := hp
  have hwf : Wf [.v (.int .i64 0), .v (.int .i64 0), .v (.int .i64 0), .v (.int .i64 0)] es := hw.wf
  have hlen : es.length ≤ 1099511627776 := Nat.le_trans (Nat.le_add_right _ _) hlim
  refine ctr_of (ctF := LObjS.ct) (mtF := LObjS.mt) (ptF := LObjS.pt) (F0 := LObjS.F0) tabOk LObjS.ct_ok LObjS.mt_ok LObjS.pt_ok mixed 27 _ [4] [.tmp 4] Try.func43 rfl rfl rfl rfl rfl ?_
  intro O r F hO hr hF
  cbv
  refine caseB_intro (fun hb => ?_) (fun hb => ?_) <;> cbv
  · ((try subst hos); subst hO hr hF; (try simp only [stdO, SS, sub_all, ad_zero] at *); (try simp only [ncast] at *); (try simp only [Int.ofNat_eq_natCast] at *)); exact absurd rfl hb
  · clear hb
    refine ⟨[0, 1, 5], [], Int, fun i => [.reg 5 (.one (.v (.int .i64 i)))], fun i => 0 ≤ i ∧ i.toNat ≤ es.length, fun i => es.length - i.toNat, ⟨0, ?_, ?_⟩, ?_⟩
    · exact ⟨by omega, Nat.zero_le _⟩
    · cbv
    · rintro i hi
      replace hi : 0 ≤ i ∧ i.toNat ≤ es.length := hi
      obtain ⟨g0, g1⟩ := hi
      cbv
      repeat' first | refine And.intro ?_ ?_ | (refine caseB_intro (fun hb => ?_) (fun hb => ?_) <;> cbv) | (refine loop_step (O.ar .add .i64 i 1) ?_ ?_ ?_; rotate_left 2; focus (cbv; done))
      all_goals ((try subst hos); subst hO hr hF; (try simp only [stdO, SS, sub_all, ad_zero] at *); (try simp only [ncast] at *); (try simp only [Int.ofNat_eq_natCast] at *))
      all_goals (try simp only [LObjS.F0] at *)
      all_goals try have hlt : i < es.length := by assumption
      all_goals try rw [inc64 (n := es.length) g0 hlt (by omega)]
      all_goals try have he : es.getD i.toNat [] = [.v (.int .i64 (giI es i 0)), .v (.int .i64 (giI es i 1)), .v (.int .i64 (giI es i 2)), .v (.int .i64 (giI es i 3))] := (etaE_whole hwf g0 hlt).symm
      all_goals try have hct := cntE_at (es := es) (n := i.toNat) (by omega); rw [he] at hct; simp only [cntR, cntL, Nat.add_zero, Nat.zero_add] at hct
      all_goals have hle1 := cntEs_take_le (es := es) (n := i.toNat + 1)
      all_goals have hcE : cntE es = es.length + cntEs es := rfl
      all_goals first
        | omega
        | exact row_ro hwf g0 hlt
        | exact absurd rfl hb
        | exact absurd rfl (by assumption)
        | trivial
        | kernel_rfl
        | exact ⟨trivial, trivial⟩
        | (refine ⟨trivial, ?_⟩; simp only [cntRs, cntE, Nat.add_zero]; omega)
        | trace_state
namespace LStale
structure Fns where
  no : Unit
def F0 : Fns := ⟨()⟩
def ct : Fns → CT := noC
theorem ct_ok : CTok Try.prog (ct F0) := noC_ok
def mt : Fns → MT := noMT
theorem mt_ok : MTok Try.prog (mt F0) := noMT_ok
def pt : Fns → PT := noPT
theorem pt_ok : PTok Try.prog (pt F0) := noPT_ok
end LStale
theorem c_laws_toStale (a0 : Int) (a1 : Int) (a2 : Int) (hp : True) : Ctr Try.prog 103 [.agg [.v (.int .i64 a0), .v (.int .i64 a1), .v (.int .i64 a2)]] [.agg [.v (.int .i64 a0), .v (.int .i64 a1), .v (.int .i64 a2)]] := by

  refine ctr_of (ctF := LStale.ct) (mtF := LStale.mt) (ptF := LStale.pt) (F0 := LStale.F0) tabOk LStale.ct_ok LStale.mt_ok LStale.pt_ok mixed 14 _ [174] [.cell 2 174] Try.func103 rfl rfl rfl rfl rfl ?_
  intro O r F hO hr hF
  cbv
  repeat' first | refine And.intro ?_ ?_ | (refine caseB_intro (fun hb => ?_) (fun hb => ?_) <;> cbv)
  all_goals ((try subst hos); subst hO hr hF; (try simp only [stdO, SS, sub_all, ad_zero] at *); (try simp only [ncast] at *); (try simp only [Int.ofNat_eq_natCast] at *))
  all_goals (try simp only [LStale.F0] at *)
  all_goals first
    | trivial
    | exact rfl
    | exact ⟨trivial, trivial⟩
    | exact ⟨rfl, rfl⟩
    | (refine ⟨by assumption, ?_⟩; (try simp only [cntRs, Nat.add_zero]); omega)
    | ((try simp only [cntRs, Nat.add_zero]); omega)
    | trace_state
theorem c_laws_eqStale (a0 : Int) (a1 : Int) (a2 : Int) (d : DV) (hp : d = .agg [.v (.int .i64 a0), .v (.int .i64 a1), .v (.int .i64 a2)]) : Ctr Try.prog 107 [.agg [.v (.int .i64 a0), .v (.int .i64 a1), .v (.int .i64 a2)], d] [.one (.v (.bool true))] := by
  subst hp
  refine ctr_of (ctF := LStale.ct) (mtF := LStale.mt) (ptF := LStale.pt) (F0 := LStale.F0) tabOk LStale.ct_ok LStale.mt_ok LStale.pt_ok mixed 20 _ [4] [.tmp 4] Try.func107 rfl rfl rfl rfl rfl ?_
  intro O r F hO hr hF
  cbv
  repeat' first | refine And.intro ?_ ?_ | (refine caseB_intro (fun hb => ?_) (fun hb => ?_) <;> cbv)
  all_goals ((try subst hos); subst hO hr hF; (try simp only [stdO, SS, sub_all, ad_zero] at *); (try simp only [ncast] at *); (try simp only [Int.ofNat_eq_natCast] at *))
  all_goals (try simp only [LStale.F0] at *)
  all_goals first
    | trivial
    | exact rfl
    | exact absurd rfl hb
    | exact absurd rfl (by assumption)
    | (refine ⟨trivial, by assumption, ?_⟩; (try simp only [cntRs, Nat.add_zero]); omega)
    | (refine ⟨trivial, ?_⟩; (try simp only [cntRs, Nat.add_zero]); omega)
    | trace_state
namespace LStaleS
structure Fns where
  no : Unit
def F0 : Fns := ⟨()⟩
def ct (F : Fns) : CT := fun f ds => match f, ds with
  | 103, [.agg [.v (.int .i64 a0), .v (.int .i64 a1), .v (.int .i64 a2)]] => some (fun _ => True, [.agg [.v (.int .i64 a0), .v (.int .i64 a1), .v (.int .i64 a2)]])
  | 107, [.agg [.v (.int .i64 a0), .v (.int .i64 a1), .v (.int .i64 a2)], d] => some (fun _ => d = .agg [.v (.int .i64 a0), .v (.int .i64 a1), .v (.int .i64 a2)], [.one (.v (.bool true))])
  | _, _ => none
theorem ct_ok : CTok Try.prog (ct F0) := by
  intro f ds pre res h hp
  unfold ct at h
  split at h
  · cases h; exact c_laws_toStale _ _ _ hp
  · cases h; exact c_laws_eqStale _ _ _ _ hp
  · cases h
def mt : Fns → MT := noMT
theorem mt_ok : MTok Try.prog (mt F0) := noMT_ok
def pt : Fns → PT := noPT
theorem pt_ok : PTok Try.prog (pt F0) := noPT_ok
end LStaleS
theorem c_laws_szStaleS (es : List (List L)) (left : Int) (hp : Rw [tI, tI, tI] es ∧ 0 ≤ left ∧ left ≤ 1048576) : Ctr Try.prog 64 [.one (.s 3 es), .one (.v (.int .i64 left))] [.one (.v (.int .i64 (szN0 [es] left)))] := by
  obtain ⟨hw, h0, h1⟩ := hp
  have hc : cntE es = es.length := hw.cnt rfl
  have hm := hw.1; unfold maxLen at hm
  have hs : arI .sub .i64 left es.length = left - es.length := sub64 (by omega)
  have hn : szN0 [es] left = if left < es.length then -1 else left - es.length := by unfold szN0; rw [cntRs_one, hc]
  refine ctr_of (ctF := LStaleS.ct) (mtF := LStaleS.mt) (ptF := LStaleS.pt) (F0 := LStaleS.F0) tabOk LStaleS.ct_ok LStaleS.mt_ok LStaleS.pt_ok mixed 12 _ [3] [.tmp 4] Try.func64 rfl rfl rfl rfl rfl ?_
  intro O r F hO hr hF
  cbv
  repeat' first | refine And.intro ?_ ?_ | (refine caseB_intro (fun hb => ?_) (fun hb => ?_) <;> cbv)
  all_goals ((try subst hos); subst hO hr hF; (try simp only [stdO, SS, sub_all, ad_zero] at *); (try simp only [ncast] at *); (try simp only [Int.ofNat_eq_natCast] at *))
  all_goals (try simp only [hs, LStaleS.F0] at *)
  all_goals first | trivial | (rw [hn, if_pos (by omega)]) | (rw [hn, if_neg (by omega)])
theorem c_laws_toStaleS (es : List (List L)) (hp : Rw [tI, tI, tI] es ∧ cntE es ≤ 1048576) : Ctr Try.prog 75 [.one (.s 3 es)] [.one (.s 3 es)] := by
  obtain ⟨hw, hlim⟩ := hp
  have hwf : Wf [.v (.int .i64 0), .v (.int .i64 0), .v (.int .i64 0)] es := hw.wf
  have hlen : es.length ≤ 1048576 := Nat.le_trans (Nat.le_add_right _ _) hlim
  refine ctr_of (ctF := LStaleS.ct) (mtF := LStaleS.mt) (ptF := LStaleS.pt) (F0 := LStaleS.F0) tabOk LStaleS.ct_ok LStaleS.mt_ok LStaleS.pt_ok mixed 23 _ [69] [.tmp 2] Try.func75 rfl rfl rfl rfl rfl ?_
  intro O r F hO hr hF
  cbv
  have h0z : fillR es [.v (.int .i64 0), .v (.int .i64 0), .v (.int .i64 0)] 0 = O.rep (O.zi (O.ln es)) [.v (.int .i64 0), .v (.int .i64 0), .v (.int .i64 0)] := by
    subst hO
    rw [fillR_zero]; rfl
  refine ⟨?_, ?_, [0, 3, 4], [3], Int × List (List L), fun s => [.reg 4 (.one (.v (.int .i64 s.1))), .leaf 3 0 ⟨0, 0, none, .own (.s 3 s.2)⟩], fun s => 0 ≤ s.1 ∧ s.1.toNat ≤ es.length ∧ s.2 = fillR es [.v (.int .i64 0), .v (.int .i64 0), .v (.int .i64 0)] s.1.toNat, fun s => es.length - s.1.toNat, ⟨(0, O.rep (O.zi (O.ln es)) [.v (.int .i64 0), .v (.int .i64 0), .v (.int .i64 0)]), ?_, ?_⟩, ?_⟩
  · subst hO
    exact mk_ok (b := 24) (show es.length * _ ≤ _ by omega) (show es.length ≤ _ by omega)
  · subst hO
    exact ⟨rfl, rfl⟩
  · exact ⟨by omega, Nat.zero_le _, h0z.symm⟩
  · cbv
  · rintro ⟨i, m⟩ hi
    replace hi : 0 ≤ i ∧ i.toNat ≤ es.length ∧ m = fillR es [.v (.int .i64 0), .v (.int .i64 0), .v (.int .i64 0)] i.toNat := hi
    obtain ⟨g0, g1, hm⟩ := hi
    cbv
    repeat' first | refine And.intro ?_ ?_ | (refine caseB_intro (fun hb => ?_) (fun hb => ?_) <;> cbv) | (refine loop_step (O.ar .add .i64 i 1, O.up (.s 3 m) [(O.ad 0 i, 0)] [.v (.int .i64 (O.gi es i 0)), .v (.int .i64 (O.gi es i 1)), .v (.int .i64 (O.gi es i 2))]) ?_ ?_ ?_; rotate_left 2; focus (cbv; done))
    all_goals ((try subst hos); subst hO hr hF; (try simp only [stdO, SS, sub_all, ad_zero] at *); (try simp only [ncast] at *); (try simp only [Int.ofNat_eq_natCast] at *))
    all_goals (try simp only [LStaleS.F0, repI, List.length_replicate, Int.toNat_natCast] at *)
    all_goals try have hlt : i < es.length := by assumption
    all_goals try rw [inc64 (n := es.length) g0 hlt (by omega)]
    all_goals try have he : es.getD i.toNat [] = [.v (.int .i64 (giI es i 0)), .v (.int .i64 (giI es i 1)), .v (.int .i64 (giI es i 2))] := (etaE_whole hwf g0 hlt).symm
    all_goals try have hct := cntE_at (es := es) (n := i.toNat) (by omega); rw [he] at hct; simp only [cntR, cntL, Nat.add_zero, Nat.zero_add] at hct
    all_goals have hle1 := cntEs_take_le (es := es) (n := i.toNat + 1)
    all_goals have hcE : cntE es = es.length + cntEs es := rfl
    all_goals first
      | exact row_ro hwf g0 hlt
      | exact ⟨g0, hlt⟩
      | (rw [hm]; exact getR_some (by rw [fillR_length g1]; omega) (by rw [fillR_getD (by omega)]; exact Nat.le_refl _))
      | omega
      | (rw [show (i + 1).toNat = i.toNat + 1 from by omega, ← fillR_set (by omega), ← hm, upI_one (by rw [hm, fillR_getD (by omega)]; rfl), he])
      | (rw [hm, fillR_length g1]; exact ⟨trivial, rfl⟩)
      | (rw [hm, show i.toNat = es.length from by omega, fillR_all])
      | trivial
      | exact ⟨trivial, trivial⟩
      | (refine ⟨?_⟩; simp only [cntRs, cntE, Nat.add_zero]; omega)
      | trace_state
theorem c_laws_eqStaleS (es : List (List L)) (d : DV) (hp : d = .one (.s 3 es) ∧ Rw [tI, tI, tI] es ∧ cntE es ≤ 1099511627776) : Ctr Try.prog 86 [.one (.s 3 es), d] [.one (.v (.bool true))] := by
  obtain ⟨rfl, hw, hlim⟩ := hp
  have hwf : Wf [.v (.int .i64 0), .v (.int .i64 0), .v (.int .i64 0)] es := hw.wf
  have hlen : es.length ≤ 1099511627776 := Nat.le_trans (Nat.le_add_right _ _) hlim
  refine ctr_of (ctF := LStaleS.ct) (mtF := LStaleS.mt) (ptF := LStaleS.pt) (F0 := LStaleS.F0) tabOk LStaleS.ct_ok LStaleS.mt_ok LStaleS.pt_ok mixed 27 _ [4] [.tmp 4] Try.func86 rfl rfl rfl rfl rfl ?_
  intro O r F hO hr hF
  cbv
  refine caseB_intro (fun hb => ?_) (fun hb => ?_) <;> cbv
  · ((try subst hos); subst hO hr hF; (try simp only [stdO, SS, sub_all, ad_zero] at *); (try simp only [ncast] at *); (try simp only [Int.ofNat_eq_natCast] at *)); exact absurd rfl hb
  · clear hb
    refine ⟨[0, 1, 5], [], Int, fun i => [.reg 5 (.one (.v (.int .i64 i)))], fun i => 0 ≤ i ∧ i.toNat ≤ es.length, fun i => es.length - i.toNat, ⟨0, ?_, ?_⟩, ?_⟩
    · exact ⟨by omega, Nat.zero_le _⟩
    · cbv
    · rintro i hi
      replace hi : 0 ≤ i ∧ i.toNat ≤ es.length := hi
      obtain ⟨g0, g1⟩ := hi
      cbv
      repeat' first | refine And.intro ?_ ?_ | (refine caseB_intro (fun hb => ?_) (fun hb => ?_) <;> cbv) | (refine loop_step (O.ar .add .i64 i 1) ?_ ?_ ?_; rotate_left 2; focus (cbv; done))
      all_goals ((try subst hos); subst hO hr hF; (try simp only [stdO, SS, sub_all, ad_zero] at *); (try simp only [ncast] at *); (try simp only [Int.ofNat_eq_natCast] at *))
      all_goals (try simp only [LStaleS.F0] at *)
      all_goals try have hlt : i < es.length := by assumption
      all_goals try rw [inc64 (n := es.length) g0 hlt (by omega)]
      all_goals try have he : es.getD i.toNat [] = [.v (.int .i64 (giI es i 0)), .v (.int .i64 (giI es i 1)), .v (.int .i64 (giI es i 2))] := (etaE_whole hwf g0 hlt).symm
      all_goals try have hct := cntE_at (es := es) (n := i.toNat) (by omega); rw [he] at hct; simp only [cntR, cntL, Nat.add_zero, Nat.zero_add] at hct
      all_goals have hle1 := cntEs_take_le (es := es) (n := i.toNat + 1)
      all_goals have hcE : cntE es = es.length + cntEs es := rfl
      all_goals first
        | omega
        | exact row_ro hwf g0 hlt
        | exact absurd rfl hb
        | exact absurd rfl (by assumption)
        | trivial
        | kernel_rfl
        | exact ⟨trivial, trivial⟩
        | (refine ⟨trivial, ?_⟩; simp only [cntRs, cntE, Nat.add_zero]; omega)
        | trace_state
namespace LPost
structure Fns where
  no : Unit
def F0 : Fns := ⟨()⟩
def ct : Fns → CT := noC
theorem ct_ok : CTok Try.prog (ct F0) := noC_ok
def mt : Fns → MT := noMT
theorem mt_ok : MTok Try.prog (mt F0) := noMT_ok
def pt : Fns → PT := noPT
theorem pt_ok : PTok Try.prog (pt F0) := noPT_ok
end LPost
theorem c_laws_toPost (a0 : Int) (a1 : Int) (hp : True) : Ctr Try.prog 113 [.agg [.v (.int .i64 a0), .v (.int .i64 a1)]] [.agg [.v (.int .i64 a0), .v (.int .i64 a1)]] := by

  refine ctr_of (ctF := LPost.ct) (mtF := LPost.mt) (ptF := LPost.pt) (F0 := LPost.F0) tabOk LPost.ct_ok LPost.mt_ok LPost.pt_ok mixed 11 _ [188] [.cell 2 188] Try.func113 rfl rfl rfl rfl rfl ?_
  intro O r F hO hr hF
  cbv
  repeat' first | refine And.intro ?_ ?_ | (refine caseB_intro (fun hb => ?_) (fun hb => ?_) <;> cbv)
  all_goals ((try subst hos); subst hO hr hF; (try simp only [stdO, SS, sub_all, ad_zero] at *); (try simp only [ncast] at *); (try simp only [Int.ofNat_eq_natCast] at *))
  all_goals (try simp only [LPost.F0] at *)
  all_goals first
    | trivial
    | exact rfl
    | exact ⟨trivial, trivial⟩
    | exact ⟨rfl, rfl⟩
    | (refine ⟨by assumption, ?_⟩; (try simp only [cntRs, Nat.add_zero]); omega)
    | ((try simp only [cntRs, Nat.add_zero]); omega)
    | trace_state
theorem c_laws_eqPost (a0 : Int) (a1 : Int) (d : DV) (hp : d = .agg [.v (.int .i64 a0), .v (.int .i64 a1)]) : Ctr Try.prog 116 [.agg [.v (.int .i64 a0), .v (.int .i64 a1)], d] [.one (.v (.bool true))] := by
  subst hp
  refine ctr_of (ctF := LPost.ct) (mtF := LPost.mt) (ptF := LPost.pt) (F0 := LPost.F0) tabOk LPost.ct_ok LPost.mt_ok LPost.pt_ok mixed 15 _ [4] [.tmp 4] Try.func116 rfl rfl rfl rfl rfl ?_
  intro O r F hO hr hF
  cbv
  repeat' first | refine And.intro ?_ ?_ | (refine caseB_intro (fun hb => ?_) (fun hb => ?_) <;> cbv)
  all_goals ((try subst hos); subst hO hr hF; (try simp only [stdO, SS, sub_all, ad_zero] at *); (try simp only [ncast] at *); (try simp only [Int.ofNat_eq_natCast] at *))
  all_goals (try simp only [LPost.F0] at *)
  all_goals first
    | trivial
    | exact rfl
    | exact absurd rfl hb
    | exact absurd rfl (by assumption)
    | (refine ⟨trivial, by assumption, ?_⟩; (try simp only [cntRs, Nat.add_zero]); omega)
    | (refine ⟨trivial, ?_⟩; (try simp only [cntRs, Nat.add_zero]); omega)
    | trace_state
namespace LPostS
structure Fns where
  no : Unit
def F0 : Fns := ⟨()⟩
def ct (F : Fns) : CT := fun f ds => match f, ds with
  | 113, [.agg [.v (.int .i64 a0), .v (.int .i64 a1)]] => some (fun _ => True, [.agg [.v (.int .i64 a0), .v (.int .i64 a1)]])
  | 116, [.agg [.v (.int .i64 a0), .v (.int .i64 a1)], d] => some (fun _ => d = .agg [.v (.int .i64 a0), .v (.int .i64 a1)], [.one (.v (.bool true))])
  | _, _ => none
theorem ct_ok : CTok Try.prog (ct F0) := by
  intro f ds pre res h hp
  unfold ct at h
  split at h
  · cases h; exact c_laws_toPost _ _ hp
  · cases h; exact c_laws_eqPost _ _ _ hp
  · cases h
def mt : Fns → MT := noMT
theorem mt_ok : MTok Try.prog (mt F0) := noMT_ok
def pt : Fns → PT := noPT
theorem pt_ok : PTok Try.prog (pt F0) := noPT_ok
end LPostS
theorem c_laws_szPostS (es : List (List L)) (left : Int) (hp : Rw [tI, tI] es ∧ 0 ≤ left ∧ left ≤ 1048576) : Ctr Try.prog 99 [.one (.s 2 es), .one (.v (.int .i64 left))] [.one (.v (.int .i64 (szN0 [es] left)))] := by
  obtain ⟨hw, h0, h1⟩ := hp
  have hc : cntE es = es.length := hw.cnt rfl
  have hm := hw.1; unfold maxLen at hm
  have hs : arI .sub .i64 left es.length = left - es.length := sub64 (by omega)
  have hn : szN0 [es] left = if left < es.length then -1 else left - es.length := by unfold szN0; rw [cntRs_one, hc]
  refine ctr_of (ctF := LPostS.ct) (mtF := LPostS.mt) (ptF := LPostS.pt) (F0 := LPostS.F0) tabOk LPostS.ct_ok LPostS.mt_ok LPostS.pt_ok mixed 12 _ [3] [.tmp 4] Try.func99 rfl rfl rfl rfl rfl ?_
  intro O r F hO hr hF
  cbv
  repeat' first | refine And.intro ?_ ?_ | (refine caseB_intro (fun hb => ?_) (fun hb => ?_) <;> cbv)
  all_goals ((try subst hos); subst hO hr hF; (try simp only [stdO, SS, sub_all, ad_zero] at *); (try simp only [ncast] at *); (try simp only [Int.ofNat_eq_natCast] at *))
  all_goals (try simp only [hs, LPostS.F0] at *)
  all_goals first | trivial | (rw [hn, if_pos (by omega)]) | (rw [hn, if_neg (by omega)])
theorem c_laws_toPostS (es : List (List L)) (hp : Rw [tI, tI] es ∧ cntE es ≤ 1048576) : Ctr Try.prog 102 [.one (.s 2 es)] [.one (.s 2 es)] := by
  obtain ⟨hw, hlim⟩ := hp
  have hwf : Wf [.v (.int .i64 0), .v (.int .i64 0)] es := hw.wf
  have hlen : es.length ≤ 1048576 := Nat.le_trans (Nat.le_add_right _ _) hlim
  refine ctr_of (ctF := LPostS.ct) (mtF := LPostS.mt) (ptF := LPostS.pt) (F0 := LPostS.F0) tabOk LPostS.ct_ok LPostS.mt_ok LPostS.pt_ok mixed 23 _ [171] [.tmp 2] Try.func102 rfl rfl rfl rfl rfl ?_
  intro O r F hO hr hF
  cbv
  have h0z : fillR es [.v (.int .i64 0), .v (.int .i64 0)] 0 = O.rep (O.zi (O.ln es)) [.v (.int .i64 0), .v (.int .i64 0)] := by
    subst hO
    rw [fillR_zero]; rfl
  refine ⟨?_, ?_, [0, 3, 4], [3], Int × List (List L), fun s => [.reg 4 (.one (.v (.int .i64 s.1))), .leaf 3 0 ⟨0, 0, none, .own (.s 2 s.2)⟩], fun s => 0 ≤ s.1 ∧ s.1.toNat ≤ es.length ∧ s.2 = fillR es [.v (.int .i64 0), .v (.int .i64 0)] s.1.toNat, fun s => es.length - s.1.toNat, ⟨(0, O.rep (O.zi (O.ln es)) [.v (.int .i64 0), .v (.int .i64 0)]), ?_, ?_⟩, ?_⟩
  · subst hO
    exact mk_ok (b := 16) (show es.length * _ ≤ _ by omega) (show es.length ≤ _ by omega)
  · subst hO
    exact ⟨rfl, rfl⟩
  · exact ⟨by omega, Nat.zero_le _, h0z.symm⟩
  · cbv
  · rintro ⟨i, m⟩ hi
    replace hi : 0 ≤ i ∧ i.toNat ≤ es.length ∧ m = fillR es [.v (.int .i64 0), .v (.int .i64 0)] i.toNat := hi
    obtain ⟨g0, g1, hm⟩ := hi
    cbv
    repeat' first | refine And.intro ?_ ?_ | (refine caseB_intro (fun hb => ?_) (fun hb => ?_) <;> cbv) | (refine loop_step (O.ar .add .i64 i 1, O.up (.s 2 m) [(O.ad 0 i, 0)] [.v (.int .i64 (O.gi es i 0)), .v (.int .i64 (O.gi es i 1))]) ?_ ?_ ?_; rotate_left 2; focus (cbv; done))
    all_goals ((try subst hos); subst hO hr hF; (try simp only [stdO, SS, sub_all, ad_zero] at *); (try simp only [ncast] at *); (try simp only [Int.ofNat_eq_natCast] at *))
    all_goals (try simp only [LPostS.F0, repI, List.length_replicate, Int.toNat_natCast] at *)
    all_goals try have hlt : i < es.length := by assumption
    all_goals try rw [inc64 (n := es.length) g0 hlt (by omega)]
    all_goals try have he : es.getD i.toNat [] = [.v (.int .i64 (giI es i 0)), .v (.int .i64 (giI es i 1))] := (etaE_whole hwf g0 hlt).symm
    all_goals try have hct := cntE_at (es := es) (n := i.toNat) (by omega); rw [he] at hct; simp only [cntR, cntL, Nat.add_zero, Nat.zero_add] at hct
    all_goals have hle1 := cntEs_take_le (es := es) (n := i.toNat + 1)
    all_goals have hcE : cntE es = es.length + cntEs es := rfl
    all_goals first
      | exact row_ro hwf g0 hlt
      | exact ⟨g0, hlt⟩
      | (rw [hm]; exact getR_some (by rw [fillR_length g1]; omega) (by rw [fillR_getD (by omega)]; exact Nat.le_refl _))
      | omega
      | (rw [show (i + 1).toNat = i.toNat + 1 from by omega, ← fillR_set (by omega), ← hm, upI_one (by rw [hm, fillR_getD (by omega)]; rfl), he])
      | (rw [hm, fillR_length g1]; exact ⟨trivial, rfl⟩)
      | (rw [hm, show i.toNat = es.length from by omega, fillR_all])
      | trivial
      | exact ⟨trivial, trivial⟩
      | (refine ⟨?_⟩; simp only [cntRs, cntE, Nat.add_zero]; omega)
      | trace_state
theorem c_laws_eqPostS (es : List (List L)) (d : DV) (hp : d = .one (.s 2 es) ∧ Rw [tI, tI] es ∧ cntE es ≤ 1099511627776) : Ctr Try.prog 106 [.one (.s 2 es), d] [.one (.v (.bool true))] := by
  obtain ⟨rfl, hw, hlim⟩ := hp
  have hwf : Wf [.v (.int .i64 0), .v (.int .i64 0)] es := hw.wf
  have hlen : es.length ≤ 1099511627776 := Nat.le_trans (Nat.le_add_right _ _) hlim
  refine ctr_of (ctF := LPostS.ct) (mtF := LPostS.mt) (ptF := LPostS.pt) (F0 := LPostS.F0) tabOk LPostS.ct_ok LPostS.mt_ok LPostS.pt_ok mixed 27 _ [4] [.tmp 4] Try.func106 rfl rfl rfl rfl rfl ?_
  intro O r F hO hr hF
  cbv
  refine caseB_intro (fun hb => ?_) (fun hb => ?_) <;> cbv
  · ((try subst hos); subst hO hr hF; (try simp only [stdO, SS, sub_all, ad_zero] at *); (try simp only [ncast] at *); (try simp only [Int.ofNat_eq_natCast] at *)); exact absurd rfl hb
  · clear hb
    refine ⟨[0, 1, 5], [], Int, fun i => [.reg 5 (.one (.v (.int .i64 i)))], fun i => 0 ≤ i ∧ i.toNat ≤ es.length, fun i => es.length - i.toNat, ⟨0, ?_, ?_⟩, ?_⟩
    · exact ⟨by omega, Nat.zero_le _⟩
    · cbv
    · rintro i hi
      replace hi : 0 ≤ i ∧ i.toNat ≤ es.length := hi
      obtain ⟨g0, g1⟩ := hi
      cbv
      repeat' first | refine And.intro ?_ ?_ | (refine caseB_intro (fun hb => ?_) (fun hb => ?_) <;> cbv) | (refine loop_step (O.ar .add .i64 i 1) ?_ ?_ ?_; rotate_left 2; focus (cbv; done))
      all_goals ((try subst hos); subst hO hr hF; (try simp only [stdO, SS, sub_all, ad_zero] at *); (try simp only [ncast] at *); (try simp only [Int.ofNat_eq_natCast] at *))
      all_goals (try simp only [LPostS.F0] at *)
      all_goals try have hlt : i < es.length := by assumption
      all_goals try rw [inc64 (n := es.length) g0 hlt (by omega)]
      all_goals try have he : es.getD i.toNat [] = [.v (.int .i64 (giI es i 0)), .v (.int .i64 (giI es i 1))] := (etaE_whole hwf g0 hlt).symm
      all_goals try have hct := cntE_at (es := es) (n := i.toNat) (by omega); rw [he] at hct; simp only [cntR, cntL, Nat.add_zero, Nat.zero_add] at hct
      all_goals have hle1 := cntEs_take_le (es := es) (n := i.toNat + 1)
      all_goals have hcE : cntE es = es.length + cntEs es := rfl
      all_goals first
        | omega
        | exact row_ro hwf g0 hlt
        | exact absurd rfl hb
        | exact absurd rfl (by assumption)
        | trivial
        | kernel_rfl
        | exact ⟨trivial, trivial⟩
        | (refine ⟨trivial, ?_⟩; simp only [cntRs, cntE, Nat.add_zero]; omega)
        | trace_state
end Go.V
