/-
  Contracts of functions, by evaluation of conditions on their code.
-/import Derived.Test.YticfhgfgobafbaaGreatS9
import Derived.Test.YticfhgfgobafbaaGreatLawHEm
import Derived.Test.YticfhgfgobafbaaGreatVE
set_option linter.all false
namespace Go.V
open Go Go.Proofs
set_option maxRecDepth 1000000
set_option maxHeartbeats 8000000
namespace LRange
structure Fns where
 no : Unit
def F0 : Fns := ⟨()⟩
def B : TB Tryz.prog := {Φ := Fns, F0 := F0}
end LRange
theorem c_laws_toRange (a0 : Int) (a1 : Int) (hp : True) : Ctr Tryz.prog 101 [.agg [.v (.int .i64 a0), .v (.int .i64 a1)]] [.agg [.v (.int .i64 a0), .v (.int .i64 a1)]] := by
 refine ctr_b LRange.B tabOk mixed 11 _ [154] [.cell 2 154] Tryz.func101 rfl rfl rfl rfl rfl ?_
 intro O r (F : LRange.Fns) hO hr (hF : F = LRange.F0)
 cbv
 repeat' first | refine And.intro ?_ ?_ | (refine caseB_intro (fun hb => ?_) (fun hb => ?_) <;> cbv)
 all_goals ((try subst hos); subst hO hr hF; (try simp only [stdO, SS, sub_all, ad_zero] at *); (try simp only [ncast] at *); (try simp only [Int.ofNat_eq_natCast] at *))
 all_goals (try simp only [LRange.F0] at *)
 all_goals first
  | trivial
  | exact rfl
  | exact ⟨trivial, trivial⟩
  | exact ⟨rfl, rfl⟩
  | (refine ⟨by assumption, ?_⟩; (try simp only [cntRs, Nat.add_zero]); omega)
  | ((try simp only [cntRs, Nat.add_zero]); omega)
  | trace_state
theorem c_laws_eqRange (a0 : Int) (a1 : Int) (d : DV) (hp : d = .agg [.v (.int .i64 a0), .v (.int .i64 a1)]) : Ctr Tryz.prog 122 [.agg [.v (.int .i64 a0), .v (.int .i64 a1)], d] [.one (.v (.bool true))] := by
 subst hp
 refine ctr_b LRange.B tabOk mixed 15 _ [4] [.tmp 4] Tryz.func122 rfl rfl rfl rfl rfl ?_
 intro O r (F : LRange.Fns) hO hr (hF : F = LRange.F0)
 cbv
 repeat' first | refine And.intro ?_ ?_ | (refine caseB_intro (fun hb => ?_) (fun hb => ?_) <;> cbv)
 all_goals ((try subst hos); subst hO hr hF; (try simp only [stdO, SS, sub_all, ad_zero] at *); (try simp only [ncast] at *); (try simp only [Int.ofNat_eq_natCast] at *))
 all_goals (try simp only [LRange.F0] at *)
 all_goals first
  | trivial
  | exact rfl
  | exact absurd rfl hb
  | exact absurd rfl (by assumption)
  | (refine ⟨trivial, by assumption, ?_⟩; (try simp only [cntRs, Nat.add_zero]); omega)
  | (refine ⟨trivial, ?_⟩; (try simp only [cntRs, Nat.add_zero]); omega)
  | trace_state
namespace LRangeS
structure Fns where
 no : Unit
def F0 : Fns := ⟨()⟩
def ct (F : Fns) : CT := fun f ds => match f with
 | 101 => match ds with
   | [.agg [.v (.int .i64 a0), .v (.int .i64 a1)]] => some (fun _ => True, [.agg [.v (.int .i64 a0), .v (.int .i64 a1)]])
   | _ => none
 | 122 => match ds with
   | [.agg [.v (.int .i64 a0), .v (.int .i64 a1)], d] => some (fun _ => d = .agg [.v (.int .i64 a0), .v (.int .i64 a1)], [.one (.v (.bool true))])
   | _ => none
 | _ => none
theorem ct_ok : CTok Tryz.prog (ct F0) := by
 intro f ds pre res h hp
 unfold ct at h
 split at h
 ·split at h
  ·cases h; exact c_laws_toRange _ _ hp
  ·cases h
 ·split at h
  ·cases h; exact c_laws_eqRange _ _ _ hp
  ·cases h
 ·cases h
def B : TB Tryz.prog := {Φ := Fns, F0 := F0, ct := ct, hc := ct_ok}
end LRangeS
theorem c_laws_szRangeS (es : List (List L)) (left : Int) (hp : Rw [tI, tI] es /\ 0 <= left /\ left <= 1048576) : Ctr Tryz.prog 17 [.one (.s 2 es), .one (.v (.int .i64 left))] [.one (.v (.int .i64 (szN0 [es] left)))] := by
 obtain ⟨hw, h0, h1⟩ := hp
 have hc : cntE es = es.length := hw.cnt rfl
 have hm := hw.1; unfold maxLen at hm
 have hs : arI .sub .i64 left es.length = left - es.length := sub64 (by omega)
 have hn : szN0 [es] left = if left < es.length then -1 else left - es.length := by unfold szN0; rw [cntRs_one, hc]
 refine ctr_b LRangeS.B tabOk mixed 12 _ [3] [.tmp 4] Tryz.func17 rfl rfl rfl rfl rfl ?_
 intro O r (F : LRangeS.Fns) hO hr (hF : F = LRangeS.F0)
 cbv
 repeat' first | refine And.intro ?_ ?_ | (refine caseB_intro (fun hb => ?_) (fun hb => ?_) <;> cbv)
 all_goals ((try subst hos); subst hO hr hF; (try simp only [stdO, SS, sub_all, ad_zero] at *); (try simp only [ncast] at *); (try simp only [Int.ofNat_eq_natCast] at *))
 all_goals (try simp only [hs, LRangeS.F0] at *)
 all_goals first | trivial | (rw [hn, if_pos (by omega)]) | (rw [hn, if_neg (by omega)])
theorem c_laws_toRangeS (es : List (List L)) (hp : Rw [tI, tI] es /\ cntE es <= 1048576) : Ctr Tryz.prog 29 [.one (.s 2 es)] [.one (.s 2 es)] := by
 obtain ⟨hw, hlim⟩ := hp
 have hwf : Wf [.v (.int .i64 0), .v (.int .i64 0)] es := hw.wf
 have hlen : es.length <= 1048576 := Nat.le_trans (Nat.le_add_right _ _) hlim
 refine ctr_b LRangeS.B tabOk mixed 23 _ [61] [.tmp 2] Tryz.func29 rfl rfl rfl rfl rfl ?_
 intro O r (F : LRangeS.Fns) hO hr (hF : F = LRangeS.F0)
 cbv
 have h0z : fillR es [.v (.int .i64 0), .v (.int .i64 0)] 0 = O.rep (O.zi (O.ln es)) [.v (.int .i64 0), .v (.int .i64 0)] := by
  subst hO
  rw [fillR_zero]; rfl
 refine ⟨?_, ?_, [0, 3, 4], [3], Int × List (List L), fun s => [.reg 4 (.one (.v (.int .i64 s.1))), .leaf 3 0 ⟨0, 0, none, .own (.s 2 s.2)⟩], fun s => 0 <= s.1 /\ s.1.toNat <= es.length /\ s.2 = fillR es [.v (.int .i64 0), .v (.int .i64 0)] s.1.toNat, fun s => es.length - s.1.toNat, ⟨(0, O.rep (O.zi (O.ln es)) [.v (.int .i64 0), .v (.int .i64 0)]), ?_, ?_⟩, ?_⟩
 ·subst hO
  exact mk_ok (b := 16) (show es.length * _ <= _ by omega) (show es.length <= _ by omega)
 ·subst hO
  exact ⟨rfl, rfl⟩
 ·exact ⟨by omega, Nat.zero_le _, h0z.symm⟩
 ·cbv
 ·rintro ⟨i, m⟩ hi
  replace hi : 0 <= i /\ i.toNat <= es.length /\ m = fillR es [.v (.int .i64 0), .v (.int .i64 0)] i.toNat := hi
  obtain ⟨g0, g1, hm⟩ := hi
  cbv
  repeat' first | refine And.intro ?_ ?_ | (refine caseB_intro (fun hb => ?_) (fun hb => ?_) <;> cbv) | (refine loop_step (O.ar .add .i64 i 1, O.up (.s 2 m) [(O.ad 0 i, 0)] [.v (.int .i64 (O.gi es i 0)), .v (.int .i64 (O.gi es i 1))]) ?_ ?_ ?_; rotate_left 2; focus (cbv; done))
  all_goals ((try subst hos); subst hO hr hF; (try simp only [stdO, SS, sub_all, ad_zero] at *); (try simp only [ncast] at *); (try simp only [Int.ofNat_eq_natCast] at *))
  all_goals (try simp only [LRangeS.F0, repI, List.length_replicate, Int.toNat_natCast] at *)
  all_goals try have hlt : i < es.length := by assumption
  all_goals try rw [inc64 (n := es.length) g0 hlt (by omega)]
  all_goals try have he : es.getD i.toNat [] = [.v (.int .i64 (giI es i 0)), .v (.int .i64 (giI es i 1))] := (etaE_whole hwf g0 hlt).symm
  all_goals try have hct := cntE_at (es := es) (n := i.toNat) (by omega); rw [he] at hct; simp only [cntR, cntL, Nat.add_zero, Nat.zero_add] at hct
  all_goals have hle1 := cntEs_take_le (es := es) (n := i.toNat + 1)
  all_goals have hcE : cntE es = es.length + cntEs es := rfl
  all_goals first
   | exact row_ro hwf g0 hlt
   | exact ⟨g0, hlt⟩
   | (rw [hm]; exact getR_some (by rw [fillR_length g1]; omega) (by rw [fillR_getD (by omega)]; exact Nat.le_refl _))
   | omega
   | (rw [show (i + 1).toNat = i.toNat + 1 from by omega, <- fillR_set (by omega), <- hm, upI_one (by rw [hm, fillR_getD (by omega)]; rfl), he])
   | (rw [hm, fillR_length g1]; exact ⟨trivial, rfl⟩)
   | (rw [hm, show i.toNat = es.length from by omega, fillR_all])
   | trivial
   | exact ⟨trivial, trivial⟩
   | (refine ⟨?_⟩; simp only [cntRs, cntE, Nat.add_zero]; omega)
   | trace_state
theorem c_laws_eqRangeS (es : List (List L)) (d : DV) (hp : d = .one (.s 2 es) /\ Rw [tI, tI] es /\ cntE es <= 1099511627776) : Ctr Tryz.prog 46 [.one (.s 2 es), d] [.one (.v (.bool true))] := by
 obtain ⟨rfl, hw, hlim⟩ := hp
 have hwf : Wf [.v (.int .i64 0), .v (.int .i64 0)] es := hw.wf
 have hlen : es.length <= 1099511627776 := Nat.le_trans (Nat.le_add_right _ _) hlim
 refine ctr_b LRangeS.B tabOk mixed 27 _ [4] [.tmp 4] Tryz.func46 rfl rfl rfl rfl rfl ?_
 intro O r (F : LRangeS.Fns) hO hr (hF : F = LRangeS.F0)
 cbv
 refine caseB_intro (fun hb => ?_) (fun hb => ?_) <;> cbv
 ·((try subst hos); subst hO hr hF; (try simp only [stdO, SS, sub_all, ad_zero] at *); (try simp only [ncast] at *); (try simp only [Int.ofNat_eq_natCast] at *)); exact absurd rfl hb
 ·clear hb
  refine ⟨[0, 1, 5], [], Int, fun i => [.reg 5 (.one (.v (.int .i64 i)))], fun i => 0 <= i /\ i.toNat <= es.length, fun i => es.length - i.toNat, ⟨0, ?_, ?_⟩, ?_⟩
  ·exact ⟨by omega, Nat.zero_le _⟩
  ·cbv
  ·rintro i hi
   replace hi : 0 <= i /\ i.toNat <= es.length := hi
   obtain ⟨g0, g1⟩ := hi
   cbv
   repeat' first | refine And.intro ?_ ?_ | (refine caseB_intro (fun hb => ?_) (fun hb => ?_) <;> cbv) | (refine loop_step (O.ar .add .i64 i 1) ?_ ?_ ?_; rotate_left 2; focus (cbv; done))
   all_goals ((try subst hos); subst hO hr hF; (try simp only [stdO, SS, sub_all, ad_zero] at *); (try simp only [ncast] at *); (try simp only [Int.ofNat_eq_natCast] at *))
   all_goals (try simp only [LRangeS.F0] at *)
   all_goals try have hlt : i < es.length := by assumption
   all_goals try rw [inc64 (n := es.length) g0 hlt (by omega)]
   all_goals try have he : es.getD i.toNat [] = [.v (.int .i64 (giI es i 0)), .v (.int .i64 (giI es i 1))] := (etaE_whole hwf g0 hlt).symm
   all_goals try have hct := cntE_at (es := es) (n := i.toNat) (by omega); rw [he] at hct; simp only [cntR, cntL, Nat.add_zero, Nat.zero_add] at hct
   all_goals have hle1 := cntEs_take_le (es := es) (n := i.toNat + 1)
   all_goals have hcE : cntE es = es.length + cntEs es := rfl
   all_goals first
    | omega
    | exact row_ro hwf g0 hlt
    | exact absurd rfl hb
    | exact absurd rfl (by assumption)
    | trivial
    | kernel_rfl
    | exact ⟨trivial, trivial⟩
    | (refine ⟨trivial, ?_⟩; simp only [cntRs, cntE, Nat.add_zero]; omega)
    | trace_state
theorem c_laws_markRangeS (es : List (List L)) (k : Int) (hp : Rw [tI, tI] es /\ cntE es <= 1099511627776 /\ 0 <= k /\ kN0 [es] k <= 1152921504606846976) : MCtr Tryz.prog 55 [.one (.s 2 es), .one (.v (.int .i64 k))] [.s 2 (mkN0 es k)] [.one (.v (.int .i64 (kN0 [es] k)))] := by
 obtain ⟨hw, hlim, hk0, hkb⟩ := hp
 have hwf : Wf [.v (.int .i64 0), .v (.int .i64 0)] es := hw.wf
 have hlen : es.length <= 1099511627776 := Nat.le_trans (Nat.le_add_right _ _) hlim
 refine mctr_b LRangeS.B tabOk mixed 27 _ [3] [.tmp 4] [(0, 0)] Tryz.func55 rfl rfl rfl rfl rfl rfl rfl ?_
 intro O r os (F : LRangeS.Fns) hO hr hos (hF : F = LRangeS.F0)
 cbv
 refine ⟨[0, 1, 5], [0], Int × Int × List (List L), fun s => match s with | (i, k', cur) => [.reg 5 (.one (.v (.int .i64 i))), .reg 1 (.one (.v (.int .i64 k'))), .leaf 0 0 ⟨0, 0, some 0, .own (.s 2 cur)⟩], fun s => 0 <= s.1 /\ s.1.toNat <= es.length /\ s.2.1 = kTo es k s.1.toNat /\ s.2.2 = mkTo es k s.1.toNat, fun s => es.length - s.1.toNat, ⟨(0, k, es), ?_, ?_⟩, ?_⟩
 ·exact ⟨by omega, Nat.zero_le _, kTo_zero.symm, mkTo_zero.symm⟩
 ·cbv
 ·rintro ⟨i, k', cur⟩ hi
  replace hi : 0 <= i /\ i.toNat <= es.length /\ k' = kTo es k i.toNat /\ cur = mkTo es k i.toNat := hi
  obtain ⟨g0, g1, hk', hc⟩ := hi
  cbv
  repeat' first | refine And.intro ?_ ?_ | (refine caseB_intro (fun hb => ?_) (fun hb => ?_) <;> cbv) | (refine loop_step (O.ar .add .i64 i 1, O.ar .add .i64 (O.ar .add .i64 (k') 1) 1, O.up (.s 2 (O.up (.s 2 (cur)) [(O.ad 0 i, 0)] [.v (.int .i64 (k'))])) [(O.ad 0 i, 1)] [.v (.int .i64 (O.ar .add .i64 (k') 1))]) ?_ ?_ ?_; rotate_left 2; focus (cbv; done))
  all_goals ((try subst hos); subst hO hr hF; (try simp only [stdO, SS, sub_all, ad_zero] at *); (try simp only [ncast] at *); (try simp only [Int.ofNat_eq_natCast] at *))
  all_goals (try simp only [LRangeS.F0] at *)
  all_goals try have hlt : i < es.length := by assumption
  all_goals try rw [inc64 (n := es.length) g0 hlt (by omega)]
  all_goals try have hlt' : i.toNat < es.length := by omega
  all_goals try have he : es.getD i.toNat [] = [.v (.int .i64 (giI es i 0)), .v (.int .i64 (giI es i 1))] := (etaE_whole hwf g0 hlt).symm
  all_goals try have hct := cntE_at (es := es) (n := i.toNat) (by omega); rw [he] at hct; simp only [cntR, cntL, Nat.add_zero, Nat.zero_add] at hct
  all_goals try have hks := kTo_succ (es := es) (k := k) hlt'; rw [he] at hks; simp only [msR, msL] at hks
  all_goals try have hms := mkTo_set (es := es) (k := k) hlt'; rw [he] at hms; simp only [msR, msL] at hms
  all_goals have hle1 := cntEs_take_le (es := es) (n := i.toNat + 1)
  all_goals have hcE : cntE es = es.length + cntEs es := rfl
  all_goals have hk1 := kTo_k (es := es) (k := k) (n := i.toNat)
  all_goals have hk2 := kTo_k (es := es) (k := k) (n := i.toNat + 1)
  all_goals have hk3 := kTo_all (es := es) (k := k)
  all_goals have hk4 := kTo_k (es := es) (k := k) (n := es.length)
  all_goals have hk5 := kTo_le (es := es) (m := 0) (n := i.toNat) g1 (Nat.zero_le _)
  all_goals have hk6 := kTo_le (es := es) (m := i.toNat) (n := es.length) (Nat.le_refl _) g1
  all_goals try have hk7 := kTo_le (es := es) (m := i.toNat + 1) (n := es.length) (Nat.le_refl _) hlt'
  all_goals rw [kTo_zero] at hk5
  all_goals try have hk8 := kTo_mono (es := es) (n := i.toNat) hlt'
  all_goals try have hcl : i.toNat < cur.length := by rw [hc, mkTo_length g1]; exact hlt'
  all_goals try have hcg : cur.getD i.toNat [] = [.v (.int .i64 (giI es i 0)), .v (.int .i64 (giI es i 1))] := by rw [hc, mkTo_getD g1]; exact he
  all_goals have ha1 : arI .add .i64 k' 1 = k' + 1 := add64 (by omega)
  all_goals have ha2 : arI .add .i64 (k' + 1) 1 = k' + 1 + 1 := add64 (by omega)
  all_goals have ha3 : arI .add .i64 (k' + 1 + 1) 1 = k' + 1 + 1 + 1 := add64 (by omega)
  all_goals have ha4 : arI .add .i64 (k' + 1 + 1 + 1) 1 = k' + 1 + 1 + 1 + 1 := add64 (by omega)
  all_goals try simp only [ha1, ha2, ha3, ha4]
  all_goals try simp only [ad_zero]
  all_goals try simp only [upI_cell, hcg, List.take, List.drop, List.length_cons, List.length_nil, List.nil_append, List.cons_append, List.append_nil, Nat.zero_add, Nat.reduceAdd, getD_set_same hcl, List.set_set, List.append_assoc]
  all_goals try simp only [psI_one, hcg, getD_set_same hcl, List.getD_cons_zero, List.getD_cons_succ, lfS]
  all_goals try simp only [getR_at hcl, getR_set hcl, getS_at hcl, getS_set hcl, hcg, List.getElem?_cons_zero, List.getElem?_cons_succ]
  all_goals first
   | exact ⟨g0, hlt⟩
   | (refine ⟨_, _, rfl, ?_⟩; simp; done)
   | (refine ⟨_, _, rfl, ?_, rfl⟩; simp; done)
   | (refine ⟨_, _, rfl, by simp, ?_⟩; show List.take _ (List.drop _ _) = [L.s _ (psI _ _)]; simp only [adv, psI_one, hcg, getD_set_same hcl, List.getD_cons_zero, List.getD_cons_succ, Nat.add_zero, lfS]; rfl)
   | exact ⟨trivial, _, rfl, rfl⟩
   | exact ⟨_, rfl⟩
   | omega
   | (rw [hk', show i.toNat = es.length from by omega, hk3]; done)
   | (rw [hc, show i.toNat = es.length from by omega, mkTo_all]; rfl)
   | (rw [show (i + 1).toNat = i.toNat + 1 from by omega, hks, hk']; done)
   | (rw [show (i + 1).toNat = i.toNat + 1 from by omega, hks, hk']; rfl)
   | (rw [show (i + 1).toNat = i.toNat + 1 from by omega, <- hms, hc, hk']; done)
   | (rw [show (i + 1).toNat = i.toNat + 1 from by omega, <- hms, hc, hk']; rfl)
   | (refine ⟨?_, ?_, ?_⟩ <;> (try simp only [cntE, kN0]) <;> first | omega | (rw [hk']; omega))
   | trivial
   | trace_state
namespace LSpan
structure Fns where
 no : Unit
def F0 : Fns := ⟨()⟩
def B : TB Tryz.prog := {Φ := Fns, F0 := F0}
end LSpan
theorem c_laws_toSpan (a0 : Int) (a1 : Int) (a2 : Int) (hp : True) : Ctr Tryz.prog 102 [.agg [.v (.int .i64 a0), .v (.int .i64 a1), .v (.int .i64 a2)]] [.agg [.v (.int .i64 a0), .v (.int .i64 a1), .v (.int .i64 a2)]] := by
 refine ctr_b LSpan.B tabOk mixed 14 _ [158] [.cell 2 158] Tryz.func102 rfl rfl rfl rfl rfl ?_
 intro O r (F : LSpan.Fns) hO hr (hF : F = LSpan.F0)
 cbv
 repeat' first | refine And.intro ?_ ?_ | (refine caseB_intro (fun hb => ?_) (fun hb => ?_) <;> cbv)
 all_goals ((try subst hos); subst hO hr hF; (try simp only [stdO, SS, sub_all, ad_zero] at *); (try simp only [ncast] at *); (try simp only [Int.ofNat_eq_natCast] at *))
 all_goals (try simp only [LSpan.F0] at *)
 all_goals first
  | trivial
  | exact rfl
  | exact ⟨trivial, trivial⟩
  | exact ⟨rfl, rfl⟩
  | (refine ⟨by assumption, ?_⟩; (try simp only [cntRs, Nat.add_zero]); omega)
  | ((try simp only [cntRs, Nat.add_zero]); omega)
  | trace_state
theorem c_laws_eqSpan (a0 : Int) (a1 : Int) (a2 : Int) (d : DV) (hp : d = .agg [.v (.int .i64 a0), .v (.int .i64 a1), .v (.int .i64 a2)]) : Ctr Tryz.prog 123 [.agg [.v (.int .i64 a0), .v (.int .i64 a1), .v (.int .i64 a2)], d] [.one (.v (.bool true))] := by
 subst hp
 refine ctr_b LSpan.B tabOk mixed 20 _ [4] [.tmp 4] Tryz.func123 rfl rfl rfl rfl rfl ?_
 intro O r (F : LSpan.Fns) hO hr (hF : F = LSpan.F0)
 cbv
 repeat' first | refine And.intro ?_ ?_ | (refine caseB_intro (fun hb => ?_) (fun hb => ?_) <;> cbv)
 all_goals ((try subst hos); subst hO hr hF; (try simp only [stdO, SS, sub_all, ad_zero] at *); (try simp only [ncast] at *); (try simp only [Int.ofNat_eq_natCast] at *))
 all_goals (try simp only [LSpan.F0] at *)
 all_goals first
  | trivial
  | exact rfl
  | exact absurd rfl hb
  | exact absurd rfl (by assumption)
  | (refine ⟨trivial, by assumption, ?_⟩; (try simp only [cntRs, Nat.add_zero]); omega)
  | (refine ⟨trivial, ?_⟩; (try simp only [cntRs, Nat.add_zero]); omega)
  | trace_state
namespace LSpanS
structure Fns where
 no : Unit
def F0 : Fns := ⟨()⟩
def ct (F : Fns) : CT := fun f ds => match f with
 | 102 => match ds with
   | [.agg [.v (.int .i64 a0), .v (.int .i64 a1), .v (.int .i64 a2)]] => some (fun _ => True, [.agg [.v (.int .i64 a0), .v (.int .i64 a1), .v (.int .i64 a2)]])
   | _ => none
 | 123 => match ds with
   | [.agg [.v (.int .i64 a0), .v (.int .i64 a1), .v (.int .i64 a2)], d] => some (fun _ => d = .agg [.v (.int .i64 a0), .v (.int .i64 a1), .v (.int .i64 a2)], [.one (.v (.bool true))])
   | _ => none
 | _ => none
theorem ct_ok : CTok Tryz.prog (ct F0) := by
 intro f ds pre res h hp
 unfold ct at h
 split at h
 ·split at h
  ·cases h; exact c_laws_toSpan _ _ _ hp
  ·cases h
 ·split at h
  ·cases h; exact c_laws_eqSpan _ _ _ _ hp
  ·cases h
 ·cases h
def B : TB Tryz.prog := {Φ := Fns, F0 := F0, ct := ct, hc := ct_ok}
end LSpanS
theorem c_laws_szSpanS (es : List (List L)) (left : Int) (hp : Rw [tI, tI, tI] es /\ 0 <= left /\ left <= 1048576) : Ctr Tryz.prog 18 [.one (.s 3 es), .one (.v (.int .i64 left))] [.one (.v (.int .i64 (szN0 [es] left)))] := by
 obtain ⟨hw, h0, h1⟩ := hp
 have hc : cntE es = es.length := hw.cnt rfl
 have hm := hw.1; unfold maxLen at hm
 have hs : arI .sub .i64 left es.length = left - es.length := sub64 (by omega)
 have hn : szN0 [es] left = if left < es.length then -1 else left - es.length := by unfold szN0; rw [cntRs_one, hc]
 refine ctr_b LSpanS.B tabOk mixed 12 _ [3] [.tmp 4] Tryz.func18 rfl rfl rfl rfl rfl ?_
 intro O r (F : LSpanS.Fns) hO hr (hF : F = LSpanS.F0)
 cbv
 repeat' first | refine And.intro ?_ ?_ | (refine caseB_intro (fun hb => ?_) (fun hb => ?_) <;> cbv)
 all_goals ((try subst hos); subst hO hr hF; (try simp only [stdO, SS, sub_all, ad_zero] at *); (try simp only [ncast] at *); (try simp only [Int.ofNat_eq_natCast] at *))
 all_goals (try simp only [hs, LSpanS.F0] at *)
 all_goals first | trivial | (rw [hn, if_pos (by omega)]) | (rw [hn, if_neg (by omega)])
theorem c_laws_toSpanS (es : List (List L)) (hp : Rw [tI, tI, tI] es /\ cntE es <= 1048576) : Ctr Tryz.prog 30 [.one (.s 3 es)] [.one (.s 3 es)] := by
 obtain ⟨hw, hlim⟩ := hp
 have hwf : Wf [.v (.int .i64 0), .v (.int .i64 0), .v (.int .i64 0)] es := hw.wf
 have hlen : es.length <= 1048576 := Nat.le_trans (Nat.le_add_right _ _) hlim
 refine ctr_b LSpanS.B tabOk mixed 23 _ [62] [.tmp 2] Tryz.func30 rfl rfl rfl rfl rfl ?_
 intro O r (F : LSpanS.Fns) hO hr (hF : F = LSpanS.F0)
 cbv
 have h0z : fillR es [.v (.int .i64 0), .v (.int .i64 0), .v (.int .i64 0)] 0 = O.rep (O.zi (O.ln es)) [.v (.int .i64 0), .v (.int .i64 0), .v (.int .i64 0)] := by
  subst hO
  rw [fillR_zero]; rfl
 refine ⟨?_, ?_, [0, 3, 4], [3], Int × List (List L), fun s => [.reg 4 (.one (.v (.int .i64 s.1))), .leaf 3 0 ⟨0, 0, none, .own (.s 3 s.2)⟩], fun s => 0 <= s.1 /\ s.1.toNat <= es.length /\ s.2 = fillR es [.v (.int .i64 0), .v (.int .i64 0), .v (.int .i64 0)] s.1.toNat, fun s => es.length - s.1.toNat, ⟨(0, O.rep (O.zi (O.ln es)) [.v (.int .i64 0), .v (.int .i64 0), .v (.int .i64 0)]), ?_, ?_⟩, ?_⟩
 ·subst hO
  exact mk_ok (b := 24) (show es.length * _ <= _ by omega) (show es.length <= _ by omega)
 ·subst hO
  exact ⟨rfl, rfl⟩
 ·exact ⟨by omega, Nat.zero_le _, h0z.symm⟩
 ·cbv
 ·rintro ⟨i, m⟩ hi
  replace hi : 0 <= i /\ i.toNat <= es.length /\ m = fillR es [.v (.int .i64 0), .v (.int .i64 0), .v (.int .i64 0)] i.toNat := hi
  obtain ⟨g0, g1, hm⟩ := hi
  cbv
  repeat' first | refine And.intro ?_ ?_ | (refine caseB_intro (fun hb => ?_) (fun hb => ?_) <;> cbv) | (refine loop_step (O.ar .add .i64 i 1, O.up (.s 3 m) [(O.ad 0 i, 0)] [.v (.int .i64 (O.gi es i 0)), .v (.int .i64 (O.gi es i 1)), .v (.int .i64 (O.gi es i 2))]) ?_ ?_ ?_; rotate_left 2; focus (cbv; done))
  all_goals ((try subst hos); subst hO hr hF; (try simp only [stdO, SS, sub_all, ad_zero] at *); (try simp only [ncast] at *); (try simp only [Int.ofNat_eq_natCast] at *))
  all_goals (try simp only [LSpanS.F0, repI, List.length_replicate, Int.toNat_natCast] at *)
  all_goals try have hlt : i < es.length := by assumption
  all_goals try rw [inc64 (n := es.length) g0 hlt (by omega)]
  all_goals try have he : es.getD i.toNat [] = [.v (.int .i64 (giI es i 0)), .v (.int .i64 (giI es i 1)), .v (.int .i64 (giI es i 2))] := (etaE_whole hwf g0 hlt).symm
  all_goals try have hct := cntE_at (es := es) (n := i.toNat) (by omega); rw [he] at hct; simp only [cntR, cntL, Nat.add_zero, Nat.zero_add] at hct
  all_goals have hle1 := cntEs_take_le (es := es) (n := i.toNat + 1)
  all_goals have hcE : cntE es = es.length + cntEs es := rfl
  all_goals first
   | exact row_ro hwf g0 hlt
   | exact ⟨g0, hlt⟩
   | (rw [hm]; exact getR_some (by rw [fillR_length g1]; omega) (by rw [fillR_getD (by omega)]; exact Nat.le_refl _))
   | omega
   | (rw [show (i + 1).toNat = i.toNat + 1 from by omega, <- fillR_set (by omega), <- hm, upI_one (by rw [hm, fillR_getD (by omega)]; rfl), he])
   | (rw [hm, fillR_length g1]; exact ⟨trivial, rfl⟩)
   | (rw [hm, show i.toNat = es.length from by omega, fillR_all])
   | trivial
   | exact ⟨trivial, trivial⟩
   | (refine ⟨?_⟩; simp only [cntRs, cntE, Nat.add_zero]; omega)
   | trace_state
theorem c_laws_eqSpanS (es : List (List L)) (d : DV) (hp : d = .one (.s 3 es) /\ Rw [tI, tI, tI] es /\ cntE es <= 1099511627776) : Ctr Tryz.prog 47 [.one (.s 3 es), d] [.one (.v (.bool true))] := by
 obtain ⟨rfl, hw, hlim⟩ := hp
 have hwf : Wf [.v (.int .i64 0), .v (.int .i64 0), .v (.int .i64 0)] es := hw.wf
 have hlen : es.length <= 1099511627776 := Nat.le_trans (Nat.le_add_right _ _) hlim
 refine ctr_b LSpanS.B tabOk mixed 27 _ [4] [.tmp 4] Tryz.func47 rfl rfl rfl rfl rfl ?_
 intro O r (F : LSpanS.Fns) hO hr (hF : F = LSpanS.F0)
 cbv
 refine caseB_intro (fun hb => ?_) (fun hb => ?_) <;> cbv
 ·((try subst hos); subst hO hr hF; (try simp only [stdO, SS, sub_all, ad_zero] at *); (try simp only [ncast] at *); (try simp only [Int.ofNat_eq_natCast] at *)); exact absurd rfl hb
 ·clear hb
  refine ⟨[0, 1, 5], [], Int, fun i => [.reg 5 (.one (.v (.int .i64 i)))], fun i => 0 <= i /\ i.toNat <= es.length, fun i => es.length - i.toNat, ⟨0, ?_, ?_⟩, ?_⟩
  ·exact ⟨by omega, Nat.zero_le _⟩
  ·cbv
  ·rintro i hi
   replace hi : 0 <= i /\ i.toNat <= es.length := hi
   obtain ⟨g0, g1⟩ := hi
   cbv
   repeat' first | refine And.intro ?_ ?_ | (refine caseB_intro (fun hb => ?_) (fun hb => ?_) <;> cbv) | (refine loop_step (O.ar .add .i64 i 1) ?_ ?_ ?_; rotate_left 2; focus (cbv; done))
   all_goals ((try subst hos); subst hO hr hF; (try simp only [stdO, SS, sub_all, ad_zero] at *); (try simp only [ncast] at *); (try simp only [Int.ofNat_eq_natCast] at *))
   all_goals (try simp only [LSpanS.F0] at *)
   all_goals try have hlt : i < es.length := by assumption
   all_goals try rw [inc64 (n := es.length) g0 hlt (by omega)]
   all_goals try have he : es.getD i.toNat [] = [.v (.int .i64 (giI es i 0)), .v (.int .i64 (giI es i 1)), .v (.int .i64 (giI es i 2))] := (etaE_whole hwf g0 hlt).symm
   all_goals try have hct := cntE_at (es := es) (n := i.toNat) (by omega); rw [he] at hct; simp only [cntR, cntL, Nat.add_zero, Nat.zero_add] at hct
   all_goals have hle1 := cntEs_take_le (es := es) (n := i.toNat + 1)
   all_goals have hcE : cntE es = es.length + cntEs es := rfl
   all_goals first
    | omega
    | exact row_ro hwf g0 hlt
    | exact absurd rfl hb
    | exact absurd rfl (by assumption)
    | trivial
    | kernel_rfl
    | exact ⟨trivial, trivial⟩
    | (refine ⟨trivial, ?_⟩; simp only [cntRs, cntE, Nat.add_zero]; omega)
    | trace_state
theorem c_laws_markSpanS (es : List (List L)) (k : Int) (hp : Rw [tI, tI, tI] es /\ cntE es <= 1099511627776 /\ 0 <= k /\ kN0 [es] k <= 1152921504606846976) : MCtr Tryz.prog 56 [.one (.s 3 es), .one (.v (.int .i64 k))] [.s 3 (mkN0 es k)] [.one (.v (.int .i64 (kN0 [es] k)))] := by
 obtain ⟨hw, hlim, hk0, hkb⟩ := hp
 have hwf : Wf [.v (.int .i64 0), .v (.int .i64 0), .v (.int .i64 0)] es := hw.wf
 have hlen : es.length <= 1099511627776 := Nat.le_trans (Nat.le_add_right _ _) hlim
 refine mctr_b LSpanS.B tabOk mixed 34 _ [3] [.tmp 4] [(0, 0)] Tryz.func56 rfl rfl rfl rfl rfl rfl rfl ?_
 intro O r os (F : LSpanS.Fns) hO hr hos (hF : F = LSpanS.F0)
 cbv
 refine ⟨[0, 1, 5], [0], Int × Int × List (List L), fun s => match s with | (i, k', cur) => [.reg 5 (.one (.v (.int .i64 i))), .reg 1 (.one (.v (.int .i64 k'))), .leaf 0 0 ⟨0, 0, some 0, .own (.s 3 cur)⟩], fun s => 0 <= s.1 /\ s.1.toNat <= es.length /\ s.2.1 = kTo es k s.1.toNat /\ s.2.2 = mkTo es k s.1.toNat, fun s => es.length - s.1.toNat, ⟨(0, k, es), ?_, ?_⟩, ?_⟩
 ·exact ⟨by omega, Nat.zero_le _, kTo_zero.symm, mkTo_zero.symm⟩
 ·cbv
 ·rintro ⟨i, k', cur⟩ hi
  replace hi : 0 <= i /\ i.toNat <= es.length /\ k' = kTo es k i.toNat /\ cur = mkTo es k i.toNat := hi
  obtain ⟨g0, g1, hk', hc⟩ := hi
  cbv
  repeat' first | refine And.intro ?_ ?_ | (refine caseB_intro (fun hb => ?_) (fun hb => ?_) <;> cbv) | (refine loop_step (O.ar .add .i64 i 1, O.ar .add .i64 (O.ar .add .i64 (O.ar .add .i64 (k') 1) 1) 1, O.up (.s 3 (O.up (.s 3 (O.up (.s 3 (cur)) [(O.ad 0 i, 0)] [.v (.int .i64 (k'))])) [(O.ad 0 i, 1)] [.v (.int .i64 (O.ar .add .i64 (k') 1))])) [(O.ad 0 i, 2)] [.v (.int .i64 (O.ar .add .i64 (O.ar .add .i64 (k') 1) 1))]) ?_ ?_ ?_; rotate_left 2; focus (cbv; done))
  all_goals ((try subst hos); subst hO hr hF; (try simp only [stdO, SS, sub_all, ad_zero] at *); (try simp only [ncast] at *); (try simp only [Int.ofNat_eq_natCast] at *))
  all_goals (try simp only [LSpanS.F0] at *)
  all_goals try have hlt : i < es.length := by assumption
  all_goals try rw [inc64 (n := es.length) g0 hlt (by omega)]
  all_goals try have hlt' : i.toNat < es.length := by omega
  all_goals try have he : es.getD i.toNat [] = [.v (.int .i64 (giI es i 0)), .v (.int .i64 (giI es i 1)), .v (.int .i64 (giI es i 2))] := (etaE_whole hwf g0 hlt).symm
  all_goals try have hct := cntE_at (es := es) (n := i.toNat) (by omega); rw [he] at hct; simp only [cntR, cntL, Nat.add_zero, Nat.zero_add] at hct
  all_goals try have hks := kTo_succ (es := es) (k := k) hlt'; rw [he] at hks; simp only [msR, msL] at hks
  all_goals try have hms := mkTo_set (es := es) (k := k) hlt'; rw [he] at hms; simp only [msR, msL] at hms
  all_goals have hle1 := cntEs_take_le (es := es) (n := i.toNat + 1)
  all_goals have hcE : cntE es = es.length + cntEs es := rfl
  all_goals have hk1 := kTo_k (es := es) (k := k) (n := i.toNat)
  all_goals have hk2 := kTo_k (es := es) (k := k) (n := i.toNat + 1)
  all_goals have hk3 := kTo_all (es := es) (k := k)
  all_goals have hk4 := kTo_k (es := es) (k := k) (n := es.length)
  all_goals have hk5 := kTo_le (es := es) (m := 0) (n := i.toNat) g1 (Nat.zero_le _)
  all_goals have hk6 := kTo_le (es := es) (m := i.toNat) (n := es.length) (Nat.le_refl _) g1
  all_goals try have hk7 := kTo_le (es := es) (m := i.toNat + 1) (n := es.length) (Nat.le_refl _) hlt'
  all_goals rw [kTo_zero] at hk5
  all_goals try have hk8 := kTo_mono (es := es) (n := i.toNat) hlt'
  all_goals try have hcl : i.toNat < cur.length := by rw [hc, mkTo_length g1]; exact hlt'
  all_goals try have hcg : cur.getD i.toNat [] = [.v (.int .i64 (giI es i 0)), .v (.int .i64 (giI es i 1)), .v (.int .i64 (giI es i 2))] := by rw [hc, mkTo_getD g1]; exact he
  all_goals have ha1 : arI .add .i64 k' 1 = k' + 1 := add64 (by omega)
  all_goals have ha2 : arI .add .i64 (k' + 1) 1 = k' + 1 + 1 := add64 (by omega)
  all_goals have ha3 : arI .add .i64 (k' + 1 + 1) 1 = k' + 1 + 1 + 1 := add64 (by omega)
  all_goals have ha4 : arI .add .i64 (k' + 1 + 1 + 1) 1 = k' + 1 + 1 + 1 + 1 := add64 (by omega)
  all_goals try simp only [ha1, ha2, ha3, ha4]
  all_goals try simp only [ad_zero]
  all_goals try simp only [upI_cell, hcg, List.take, List.drop, List.length_cons, List.length_nil, List.nil_append, List.cons_append, List.append_nil, Nat.zero_add, Nat.reduceAdd, getD_set_same hcl, List.set_set, List.append_assoc]
  all_goals try simp only [psI_one, hcg, getD_set_same hcl, List.getD_cons_zero, List.getD_cons_succ, lfS]
  all_goals try simp only [getR_at hcl, getR_set hcl, getS_at hcl, getS_set hcl, hcg, List.getElem?_cons_zero, List.getElem?_cons_succ]
  all_goals first
   | exact ⟨g0, hlt⟩
   | (refine ⟨_, _, rfl, ?_⟩; simp; done)
   | (refine ⟨_, _, rfl, ?_, rfl⟩; simp; done)
   | (refine ⟨_, _, rfl, by simp, ?_⟩; show List.take _ (List.drop _ _) = [L.s _ (psI _ _)]; simp only [adv, psI_one, hcg, getD_set_same hcl, List.getD_cons_zero, List.getD_cons_succ, Nat.add_zero, lfS]; rfl)
   | exact ⟨trivial, _, rfl, rfl⟩
   | exact ⟨_, rfl⟩
   | omega
   | (rw [hk', show i.toNat = es.length from by omega, hk3]; done)
   | (rw [hc, show i.toNat = es.length from by omega, mkTo_all]; rfl)
   | (rw [show (i + 1).toNat = i.toNat + 1 from by omega, hks, hk']; done)
   | (rw [show (i + 1).toNat = i.toNat + 1 from by omega, hks, hk']; rfl)
   | (rw [show (i + 1).toNat = i.toNat + 1 from by omega, <- hms, hc, hk']; done)
   | (rw [show (i + 1).toNat = i.toNat + 1 from by omega, <- hms, hc, hk']; rfl)
   | (refine ⟨?_, ?_, ?_⟩ <;> (try simp only [cntE, kN0]) <;> first | omega | (rw [hk']; omega))
   | trivial
   | trace_state
namespace LLarge
structure Fns where
 no : Unit
def F0 : Fns := ⟨()⟩
def B : TB Tryz.prog := {Φ := Fns, F0 := F0}
end LLarge
theorem c_laws_toLarge (a0 : Int) (a1 : Int) (a2 : Int) (hp : True) : Ctr Tryz.prog 103 [.agg [.v (.int .i64 a0), .v (.int .i64 a1), .v (.int .i64 a2)]] [.agg [.v (.int .i64 a0), .v (.int .i64 a1), .v (.int .i64 a2)]] := by
 refine ctr_b LLarge.B tabOk mixed 14 _ [162] [.cell 2 162] Tryz.func103 rfl rfl rfl rfl rfl ?_
 intro O r (F : LLarge.Fns) hO hr (hF : F = LLarge.F0)
 cbv
 repeat' first | refine And.intro ?_ ?_ | (refine caseB_intro (fun hb => ?_) (fun hb => ?_) <;> cbv)
 all_goals ((try subst hos); subst hO hr hF; (try simp only [stdO, SS, sub_all, ad_zero] at *); (try simp only [ncast] at *); (try simp only [Int.ofNat_eq_natCast] at *))
 all_goals (try simp only [LLarge.F0] at *)
 all_goals first
  | trivial
  | exact rfl
  | exact ⟨trivial, trivial⟩
  | exact ⟨rfl, rfl⟩
  | (refine ⟨by assumption, ?_⟩; (try simp only [cntRs, Nat.add_zero]); omega)
  | ((try simp only [cntRs, Nat.add_zero]); omega)
  | trace_state
theorem c_laws_eqLarge (a0 : Int) (a1 : Int) (a2 : Int) (d : DV) (hp : d = .agg [.v (.int .i64 a0), .v (.int .i64 a1), .v (.int .i64 a2)]) : Ctr Tryz.prog 124 [.agg [.v (.int .i64 a0), .v (.int .i64 a1), .v (.int .i64 a2)], d] [.one (.v (.bool true))] := by
 subst hp
 refine ctr_b LLarge.B tabOk mixed 20 _ [4] [.tmp 4] Tryz.func124 rfl rfl rfl rfl rfl ?_
 intro O r (F : LLarge.Fns) hO hr (hF : F = LLarge.F0)
 cbv
 repeat' first | refine And.intro ?_ ?_ | (refine caseB_intro (fun hb => ?_) (fun hb => ?_) <;> cbv)
 all_goals ((try subst hos); subst hO hr hF; (try simp only [stdO, SS, sub_all, ad_zero] at *); (try simp only [ncast] at *); (try simp only [Int.ofNat_eq_natCast] at *))
 all_goals (try simp only [LLarge.F0] at *)
 all_goals first
  | trivial
  | exact rfl
  | exact absurd rfl hb
  | exact absurd rfl (by assumption)
  | (refine ⟨trivial, by assumption, ?_⟩; (try simp only [cntRs, Nat.add_zero]); omega)
  | (refine ⟨trivial, ?_⟩; (try simp only [cntRs, Nat.add_zero]); omega)
  | trace_state
namespace LLargeS
structure Fns where
 no : Unit
def F0 : Fns := ⟨()⟩
def ct (F : Fns) : CT := fun f ds => match f with
 | 103 => match ds with
   | [.agg [.v (.int .i64 a0), .v (.int .i64 a1), .v (.int .i64 a2)]] => some (fun _ => True, [.agg [.v (.int .i64 a0), .v (.int .i64 a1), .v (.int .i64 a2)]])
   | _ => none
 | 124 => match ds with
   | [.agg [.v (.int .i64 a0), .v (.int .i64 a1), .v (.int .i64 a2)], d] => some (fun _ => d = .agg [.v (.int .i64 a0), .v (.int .i64 a1), .v (.int .i64 a2)], [.one (.v (.bool true))])
   | _ => none
 | _ => none
theorem ct_ok : CTok Tryz.prog (ct F0) := by
 intro f ds pre res h hp
 unfold ct at h
 split at h
 ·split at h
  ·cases h; exact c_laws_toLarge _ _ _ hp
  ·cases h
 ·split at h
  ·cases h; exact c_laws_eqLarge _ _ _ _ hp
  ·cases h
 ·cases h
def B : TB Tryz.prog := {Φ := Fns, F0 := F0, ct := ct, hc := ct_ok}
end LLargeS
theorem c_laws_szLargeS (es : List (List L)) (left : Int) (hp : Rw [tI, tI, tI] es /\ 0 <= left /\ left <= 1048576) : Ctr Tryz.prog 19 [.one (.s 3 es), .one (.v (.int .i64 left))] [.one (.v (.int .i64 (szN0 [es] left)))] := by
 obtain ⟨hw, h0, h1⟩ := hp
 have hc : cntE es = es.length := hw.cnt rfl
 have hm := hw.1; unfold maxLen at hm
 have hs : arI .sub .i64 left es.length = left - es.length := sub64 (by omega)
 have hn : szN0 [es] left = if left < es.length then -1 else left - es.length := by unfold szN0; rw [cntRs_one, hc]
 refine ctr_b LLargeS.B tabOk mixed 12 _ [3] [.tmp 4] Tryz.func19 rfl rfl rfl rfl rfl ?_
 intro O r (F : LLargeS.Fns) hO hr (hF : F = LLargeS.F0)
 cbv
 repeat' first | refine And.intro ?_ ?_ | (refine caseB_intro (fun hb => ?_) (fun hb => ?_) <;> cbv)
 all_goals ((try subst hos); subst hO hr hF; (try simp only [stdO, SS, sub_all, ad_zero] at *); (try simp only [ncast] at *); (try simp only [Int.ofNat_eq_natCast] at *))
 all_goals (try simp only [hs, LLargeS.F0] at *)
 all_goals first | trivial | (rw [hn, if_pos (by omega)]) | (rw [hn, if_neg (by omega)])
theorem c_laws_toLargeS (es : List (List L)) (hp : Rw [tI, tI, tI] es /\ cntE es <= 1048576) : Ctr Tryz.prog 31 [.one (.s 3 es)] [.one (.s 3 es)] := by
 obtain ⟨hw, hlim⟩ := hp
 have hwf : Wf [.v (.int .i64 0), .v (.int .i64 0), .v (.int .i64 0)] es := hw.wf
 have hlen : es.length <= 1048576 := Nat.le_trans (Nat.le_add_right _ _) hlim
 refine ctr_b LLargeS.B tabOk mixed 23 _ [63] [.tmp 2] Tryz.func31 rfl rfl rfl rfl rfl ?_
 intro O r (F : LLargeS.Fns) hO hr (hF : F = LLargeS.F0)
 cbv
 have h0z : fillR es [.v (.int .i64 0), .v (.int .i64 0), .v (.int .i64 0)] 0 = O.rep (O.zi (O.ln es)) [.v (.int .i64 0), .v (.int .i64 0), .v (.int .i64 0)] := by
  subst hO
  rw [fillR_zero]; rfl
 refine ⟨?_, ?_, [0, 3, 4], [3], Int × List (List L), fun s => [.reg 4 (.one (.v (.int .i64 s.1))), .leaf 3 0 ⟨0, 0, none, .own (.s 3 s.2)⟩], fun s => 0 <= s.1 /\ s.1.toNat <= es.length /\ s.2 = fillR es [.v (.int .i64 0), .v (.int .i64 0), .v (.int .i64 0)] s.1.toNat, fun s => es.length - s.1.toNat, ⟨(0, O.rep (O.zi (O.ln es)) [.v (.int .i64 0), .v (.int .i64 0), .v (.int .i64 0)]), ?_, ?_⟩, ?_⟩
 ·subst hO
  exact mk_ok (b := 24) (show es.length * _ <= _ by omega) (show es.length <= _ by omega)
 ·subst hO
  exact ⟨rfl, rfl⟩
 ·exact ⟨by omega, Nat.zero_le _, h0z.symm⟩
 ·cbv
 ·rintro ⟨i, m⟩ hi
  replace hi : 0 <= i /\ i.toNat <= es.length /\ m = fillR es [.v (.int .i64 0), .v (.int .i64 0), .v (.int .i64 0)] i.toNat := hi
  obtain ⟨g0, g1, hm⟩ := hi
  cbv
  repeat' first | refine And.intro ?_ ?_ | (refine caseB_intro (fun hb => ?_) (fun hb => ?_) <;> cbv) | (refine loop_step (O.ar .add .i64 i 1, O.up (.s 3 m) [(O.ad 0 i, 0)] [.v (.int .i64 (O.gi es i 0)), .v (.int .i64 (O.gi es i 1)), .v (.int .i64 (O.gi es i 2))]) ?_ ?_ ?_; rotate_left 2; focus (cbv; done))
  all_goals ((try subst hos); subst hO hr hF; (try simp only [stdO, SS, sub_all, ad_zero] at *); (try simp only [ncast] at *); (try simp only [Int.ofNat_eq_natCast] at *))
  all_goals (try simp only [LLargeS.F0, repI, List.length_replicate, Int.toNat_natCast] at *)
  all_goals try have hlt : i < es.length := by assumption
  all_goals try rw [inc64 (n := es.length) g0 hlt (by omega)]
  all_goals try have he : es.getD i.toNat [] = [.v (.int .i64 (giI es i 0)), .v (.int .i64 (giI es i 1)), .v (.int .i64 (giI es i 2))] := (etaE_whole hwf g0 hlt).symm
  all_goals try have hct := cntE_at (es := es) (n := i.toNat) (by omega); rw [he] at hct; simp only [cntR, cntL, Nat.add_zero, Nat.zero_add] at hct
  all_goals have hle1 := cntEs_take_le (es := es) (n := i.toNat + 1)
  all_goals have hcE : cntE es = es.length + cntEs es := rfl
  all_goals first
   | exact row_ro hwf g0 hlt
   | exact ⟨g0, hlt⟩
   | (rw [hm]; exact getR_some (by rw [fillR_length g1]; omega) (by rw [fillR_getD (by omega)]; exact Nat.le_refl _))
   | omega
   | (rw [show (i + 1).toNat = i.toNat + 1 from by omega, <- fillR_set (by omega), <- hm, upI_one (by rw [hm, fillR_getD (by omega)]; rfl), he])
   | (rw [hm, fillR_length g1]; exact ⟨trivial, rfl⟩)
   | (rw [hm, show i.toNat = es.length from by omega, fillR_all])
   | trivial
   | exact ⟨trivial, trivial⟩
   | (refine ⟨?_⟩; simp only [cntRs, cntE, Nat.add_zero]; omega)
   | trace_state
theorem c_laws_eqLargeS (es : List (List L)) (d : DV) (hp : d = .one (.s 3 es) /\ Rw [tI, tI, tI] es /\ cntE es <= 1099511627776) : Ctr Tryz.prog 48 [.one (.s 3 es), d] [.one (.v (.bool true))] := by
 obtain ⟨rfl, hw, hlim⟩ := hp
 have hwf : Wf [.v (.int .i64 0), .v (.int .i64 0), .v (.int .i64 0)] es := hw.wf
 have hlen : es.length <= 1099511627776 := Nat.le_trans (Nat.le_add_right _ _) hlim
 refine ctr_b LLargeS.B tabOk mixed 27 _ [4] [.tmp 4] Tryz.func48 rfl rfl rfl rfl rfl ?_
 intro O r (F : LLargeS.Fns) hO hr (hF : F = LLargeS.F0)
 cbv
 refine caseB_intro (fun hb => ?_) (fun hb => ?_) <;> cbv
 ·((try subst hos); subst hO hr hF; (try simp only [stdO, SS, sub_all, ad_zero] at *); (try simp only [ncast] at *); (try simp only [Int.ofNat_eq_natCast] at *)); exact absurd rfl hb
 ·clear hb
  refine ⟨[0, 1, 5], [], Int, fun i => [.reg 5 (.one (.v (.int .i64 i)))], fun i => 0 <= i /\ i.toNat <= es.length, fun i => es.length - i.toNat, ⟨0, ?_, ?_⟩, ?_⟩
  ·exact ⟨by omega, Nat.zero_le _⟩
  ·cbv
  ·rintro i hi
   replace hi : 0 <= i /\ i.toNat <= es.length := hi
   obtain ⟨g0, g1⟩ := hi
   cbv
   repeat' first | refine And.intro ?_ ?_ | (refine caseB_intro (fun hb => ?_) (fun hb => ?_) <;> cbv) | (refine loop_step (O.ar .add .i64 i 1) ?_ ?_ ?_; rotate_left 2; focus (cbv; done))
   all_goals ((try subst hos); subst hO hr hF; (try simp only [stdO, SS, sub_all, ad_zero] at *); (try simp only [ncast] at *); (try simp only [Int.ofNat_eq_natCast] at *))
   all_goals (try simp only [LLargeS.F0] at *)
   all_goals try have hlt : i < es.length := by assumption
   all_goals try rw [inc64 (n := es.length) g0 hlt (by omega)]
   all_goals try have he : es.getD i.toNat [] = [.v (.int .i64 (giI es i 0)), .v (.int .i64 (giI es i 1)), .v (.int .i64 (giI es i 2))] := (etaE_whole hwf g0 hlt).symm
   all_goals try have hct := cntE_at (es := es) (n := i.toNat) (by omega); rw [he] at hct; simp only [cntR, cntL, Nat.add_zero, Nat.zero_add] at hct
   all_goals have hle1 := cntEs_take_le (es := es) (n := i.toNat + 1)
   all_goals have hcE : cntE es = es.length + cntEs es := rfl
   all_goals first
    | omega
    | exact row_ro hwf g0 hlt
    | exact absurd rfl hb
    | exact absurd rfl (by assumption)
    | trivial
    | kernel_rfl
    | exact ⟨trivial, trivial⟩
    | (refine ⟨trivial, ?_⟩; simp only [cntRs, cntE, Nat.add_zero]; omega)
    | trace_state
theorem c_laws_markLargeS (es : List (List L)) (k : Int) (hp : Rw [tI, tI, tI] es /\ cntE es <= 1099511627776 /\ 0 <= k /\ kN0 [es] k <= 1152921504606846976) : MCtr Tryz.prog 57 [.one (.s 3 es), .one (.v (.int .i64 k))] [.s 3 (mkN0 es k)] [.one (.v (.int .i64 (kN0 [es] k)))] := by
 obtain ⟨hw, hlim, hk0, hkb⟩ := hp
 have hwf : Wf [.v (.int .i64 0), .v (.int .i64 0), .v (.int .i64 0)] es := hw.wf
 have hlen : es.length <= 1099511627776 := Nat.le_trans (Nat.le_add_right _ _) hlim
 refine mctr_b LLargeS.B tabOk mixed 34 _ [3] [.tmp 4] [(0, 0)] Tryz.func57 rfl rfl rfl rfl rfl rfl rfl ?_
 intro O r os (F : LLargeS.Fns) hO hr hos (hF : F = LLargeS.F0)
 cbv
 refine ⟨[0, 1, 5], [0], Int × Int × List (List L), fun s => match s with | (i, k', cur) => [.reg 5 (.one (.v (.int .i64 i))), .reg 1 (.one (.v (.int .i64 k'))), .leaf 0 0 ⟨0, 0, some 0, .own (.s 3 cur)⟩], fun s => 0 <= s.1 /\ s.1.toNat <= es.length /\ s.2.1 = kTo es k s.1.toNat /\ s.2.2 = mkTo es k s.1.toNat, fun s => es.length - s.1.toNat, ⟨(0, k, es), ?_, ?_⟩, ?_⟩
 ·exact ⟨by omega, Nat.zero_le _, kTo_zero.symm, mkTo_zero.symm⟩
 ·cbv
 ·rintro ⟨i, k', cur⟩ hi
  replace hi : 0 <= i /\ i.toNat <= es.length /\ k' = kTo es k i.toNat /\ cur = mkTo es k i.toNat := hi
  obtain ⟨g0, g1, hk', hc⟩ := hi
  cbv
  repeat' first | refine And.intro ?_ ?_ | (refine caseB_intro (fun hb => ?_) (fun hb => ?_) <;> cbv) | (refine loop_step (O.ar .add .i64 i 1, O.ar .add .i64 (O.ar .add .i64 (O.ar .add .i64 (k') 1) 1) 1, O.up (.s 3 (O.up (.s 3 (O.up (.s 3 (cur)) [(O.ad 0 i, 0)] [.v (.int .i64 (k'))])) [(O.ad 0 i, 1)] [.v (.int .i64 (O.ar .add .i64 (k') 1))])) [(O.ad 0 i, 2)] [.v (.int .i64 (O.ar .add .i64 (O.ar .add .i64 (k') 1) 1))]) ?_ ?_ ?_; rotate_left 2; focus (cbv; done))
  all_goals ((try subst hos); subst hO hr hF; (try simp only [stdO, SS, sub_all, ad_zero] at *); (try simp only [ncast] at *); (try simp only [Int.ofNat_eq_natCast] at *))
  all_goals (try simp only [LLargeS.F0] at *)
  all_goals try have hlt : i < es.length := by assumption
  all_goals try rw [inc64 (n := es.length) g0 hlt (by omega)]
  all_goals try have hlt' : i.toNat < es.length := by omega
  all_goals try have he : es.getD i.toNat [] = [.v (.int .i64 (giI es i 0)), .v (.int .i64 (giI es i 1)), .v (.int .i64 (giI es i 2))] := (etaE_whole hwf g0 hlt).symm
  all_goals try have hct := cntE_at (es := es) (n := i.toNat) (by omega); rw [he] at hct; simp only [cntR, cntL, Nat.add_zero, Nat.zero_add] at hct
  all_goals try have hks := kTo_succ (es := es) (k := k) hlt'; rw [he] at hks; simp only [msR, msL] at hks
  all_goals try have hms := mkTo_set (es := es) (k := k) hlt'; rw [he] at hms; simp only [msR, msL] at hms
  all_goals have hle1 := cntEs_take_le (es := es) (n := i.toNat + 1)
  all_goals have hcE : cntE es = es.length + cntEs es := rfl
  all_goals have hk1 := kTo_k (es := es) (k := k) (n := i.toNat)
  all_goals have hk2 := kTo_k (es := es) (k := k) (n := i.toNat + 1)
  all_goals have hk3 := kTo_all (es := es) (k := k)
  all_goals have hk4 := kTo_k (es := es) (k := k) (n := es.length)
  all_goals have hk5 := kTo_le (es := es) (m := 0) (n := i.toNat) g1 (Nat.zero_le _)
  all_goals have hk6 := kTo_le (es := es) (m := i.toNat) (n := es.length) (Nat.le_refl _) g1
  all_goals try have hk7 := kTo_le (es := es) (m := i.toNat + 1) (n := es.length) (Nat.le_refl _) hlt'
  all_goals rw [kTo_zero] at hk5
  all_goals try have hk8 := kTo_mono (es := es) (n := i.toNat) hlt'
  all_goals try have hcl : i.toNat < cur.length := by rw [hc, mkTo_length g1]; exact hlt'
  all_goals try have hcg : cur.getD i.toNat [] = [.v (.int .i64 (giI es i 0)), .v (.int .i64 (giI es i 1)), .v (.int .i64 (giI es i 2))] := by rw [hc, mkTo_getD g1]; exact he
  all_goals have ha1 : arI .add .i64 k' 1 = k' + 1 := add64 (by omega)
  all_goals have ha2 : arI .add .i64 (k' + 1) 1 = k' + 1 + 1 := add64 (by omega)
  all_goals have ha3 : arI .add .i64 (k' + 1 + 1) 1 = k' + 1 + 1 + 1 := add64 (by omega)
  all_goals have ha4 : arI .add .i64 (k' + 1 + 1 + 1) 1 = k' + 1 + 1 + 1 + 1 := add64 (by omega)
  all_goals try simp only [ha1, ha2, ha3, ha4]
  all_goals try simp only [ad_zero]
  all_goals try simp only [upI_cell, hcg, List.take, List.drop, List.length_cons, List.length_nil, List.nil_append, List.cons_append, List.append_nil, Nat.zero_add, Nat.reduceAdd, getD_set_same hcl, List.set_set, List.append_assoc]
  all_goals try simp only [psI_one, hcg, getD_set_same hcl, List.getD_cons_zero, List.getD_cons_succ, lfS]
  all_goals try simp only [getR_at hcl, getR_set hcl, getS_at hcl, getS_set hcl, hcg, List.getElem?_cons_zero, List.getElem?_cons_succ]
  all_goals first
   | exact ⟨g0, hlt⟩
   | (refine ⟨_, _, rfl, ?_⟩; simp; done)
   | (refine ⟨_, _, rfl, ?_, rfl⟩; simp; done)
   | (refine ⟨_, _, rfl, by simp, ?_⟩; show List.take _ (List.drop _ _) = [L.s _ (psI _ _)]; simp only [adv, psI_one, hcg, getD_set_same hcl, List.getD_cons_zero, List.getD_cons_succ, Nat.add_zero, lfS]; rfl)
   | exact ⟨trivial, _, rfl, rfl⟩
   | exact ⟨_, rfl⟩
   | omega
   | (rw [hk', show i.toNat = es.length from by omega, hk3]; done)
   | (rw [hc, show i.toNat = es.length from by omega, mkTo_all]; rfl)
   | (rw [show (i + 1).toNat = i.toNat + 1 from by omega, hks, hk']; done)
   | (rw [show (i + 1).toNat = i.toNat + 1 from by omega, hks, hk']; rfl)
   | (rw [show (i + 1).toNat = i.toNat + 1 from by omega, <- hms, hc, hk']; done)
   | (rw [show (i + 1).toNat = i.toNat + 1 from by omega, <- hms, hc, hk']; rfl)
   | (refine ⟨?_, ?_, ?_⟩ <;> (try simp only [cntE, kN0]) <;> first | omega | (rw [hk']; omega))
   | trivial
   | trace_state
end Go.V