/-
  Contracts, by evaluation.
-/import Derived.Test.YticfhgfgobafbaaGreatS9
import Derived.Test.YticfhgfgobafbaaGreatLawHEm
import Derived.Test.YticfhgfgobafbaaGreatVE
set_option linter.all false
namespace Go.V
open Go Go.Proofs
set_option maxRecDepth 1000000
set_option maxHeartbeats 8000000
namespace LRange
structure Fns where
 no : Unit
def F0 : Fns := ⟨()⟩
def B : TB Tryz.prog := {Φ := Fns, F0 := F0}
end LRange
theorem c_laws_toRange (a0 a1 : Int) (hp : True) : Ctr Tryz.prog 101 [.agg [.v (.int .i64 a0), .v (.int .i64 a1)]] [.agg [.v (.int .i64 a0), .v (.int .i64 a1)]] := by
 refine ctr_b LRange.B tabOk mixed 11 _ [154] [.cell 2 154] Tryz.func101 rfl rfl rfl rfl rfl ?_
 intro O r (F : LRange.Fns) hO hr (hF : F = LRange.F0)
 cbv
 repeat' first | refine And.intro ?_ ?_ | (refine cbi (fun hb => ?_) (fun hb => ?_) <;> cbv)
 all_goals (subst hO hr hF; (try simp only [stdO, SS, sa, az] at *); (try simp only [nc] at *); (try simp only [onc] at *))
 all_goals (try simp only [LRange.F0] at *)
 all_goals first | trivial | exact rfl | exact ⟨trivial, trivial⟩ | exact ⟨rfl, rfl⟩ | (refine ⟨by assumption, ?_⟩; (try simp only [cntRs, Nat.add_zero]); omega) | ((try simp only [cntRs, Nat.add_zero]); omega) | trace_state
theorem c_laws_eqRange (a0 a1 : Int) (d : DV) (hp : d = .agg [.v (.int .i64 a0), .v (.int .i64 a1)]) : Ctr Tryz.prog 122 [.agg [.v (.int .i64 a0), .v (.int .i64 a1)], d] [.one (.v (.bool true))] := by
 subst hp
 refine ctr_b LRange.B tabOk mixed 15 _ [4] [.tmp 4] Tryz.func122 rfl rfl rfl rfl rfl ?_
 intro O r (F : LRange.Fns) hO hr (hF : F = LRange.F0)
 cbv
 repeat' first | refine And.intro ?_ ?_ | (refine cbi (fun hb => ?_) (fun hb => ?_) <;> cbv)
 all_goals (subst hO hr hF; (try simp only [stdO, SS, sa, az] at *); (try simp only [nc] at *); (try simp only [onc] at *))
 all_goals (try simp only [LRange.F0] at *)
 all_goals first | trivial | exact rfl | exact absurd rfl hb | exact absurd rfl (by assumption) | (refine ⟨trivial, by assumption, ?_⟩; (try simp only [cntRs, Nat.add_zero]); omega) | (refine ⟨trivial, ?_⟩; (try simp only [cntRs, Nat.add_zero]); omega) | trace_state
namespace LRangeS
structure Fns where
 no : Unit
def F0 : Fns := ⟨()⟩
def ct (F : Fns) : CT := fun f ds => match f with
 | 101 => match ds with
   | [.agg [.v (.int .i64 a0), .v (.int .i64 a1)]] => some (fun _ => True, [.agg [.v (.int .i64 a0), .v (.int .i64 a1)]])
   | _ => none
 | 122 => match ds with
   | [.agg [.v (.int .i64 a0), .v (.int .i64 a1)], d] => some (fun _ => d = .agg [.v (.int .i64 a0), .v (.int .i64 a1)], [.one (.v (.bool true))])
   | _ => none
 | _ => none
theorem ct_ok : CTok Tryz.prog (ct F0) := by
 intro f ds pre res h hp
 unfold ct at h
 split at h <;> (try split at h) <;> cases h
 exact c_laws_toRange _ _ hp
 exact c_laws_eqRange _ _ _ hp
def B : TB Tryz.prog := tb ct_ok
end LRangeS
theorem c_laws_szRangeS (es : List (List L)) (left : Int) (hp : Rw [tI, tI] es /\ 0 <= left /\ left <= 1048576) : Ctr Tryz.prog 17 [.one (.s 2 es), .one (.v (.int .i64 left))] [.one (.v (.int .i64 (szN0 [es] left)))] := by
 obtain ⟨hw, h0, h1⟩ := hp
 have hc : cntE es = es.length := hw.cnt rfl
 have hm := hw.1; unfold maxLen at hm
 have hs : arI .sub .i64 left es.length = left - es.length := sub64 (by omega)
 have hn : szN0 [es] left = if left < es.length then -1 else left - es.length := by unfold szN0; rw [cntRs_one, hc]
 refine ctr_b LRangeS.B tabOk mixed 12 _ [3] [.tmp 4] Tryz.func17 rfl rfl rfl rfl rfl ?_
 intro O r (F : LRangeS.Fns) hO hr (hF : F = LRangeS.F0)
 cbv
 repeat' first | refine And.intro ?_ ?_ | (refine cbi (fun hb => ?_) (fun hb => ?_) <;> cbv)
 all_goals (subst hO hr hF; (try simp only [stdO, SS, sa, az] at *); (try simp only [nc] at *); (try simp only [onc] at *))
 all_goals (try simp only [hs, LRangeS.F0] at *)
 all_goals first | trivial | (rw [hn, if_pos (by omega)]) | (rw [hn, if_neg (by omega)])
theorem c_laws_toRangeS (es : List (List L)) (hp : Rw [tI, tI] es /\ cntE es <= 1048576) : Ctr Tryz.prog 29 [.one (.s 2 es)] [.one (.s 2 es)] := by
 obtain ⟨hw, hlim⟩ := hp
 have hwf : Wf [.v (.int .i64 0), .v (.int .i64 0)] es := hw.wf
 have hlen : es.length <= 1048576 := Nat.le_trans (Nat.le_add_right _ _) hlim
 refine ctr_b LRangeS.B tabOk mixed 23 _ [61] [.tmp 2] Tryz.func29 rfl rfl rfl rfl rfl ?_
 intro O r (F : LRangeS.Fns) hO hr (hF : F = LRangeS.F0)
 cbv
 have h0z : fillR es [.v (.int .i64 0), .v (.int .i64 0)] 0 = O.rep (O.zi (O.ln es)) [.v (.int .i64 0), .v (.int .i64 0)] := by
  subst hO
  rw [fillR_zero]; rfl
 refine ⟨?_, ?_, [0, 3, 4], [3], Int × List (List L), fun s => [.reg 4 (.one (.v (.int .i64 s.1))), .leaf 3 0 ⟨0, 0, none, .own (.s 2 s.2)⟩], fun s => 0 <= s.1 /\ s.1.toNat <= es.length /\ s.2 = fillR es [.v (.int .i64 0), .v (.int .i64 0)] s.1.toNat, fun s => es.length - s.1.toNat, ⟨(0, O.rep (O.zi (O.ln es)) [.v (.int .i64 0), .v (.int .i64 0)]), ?_, ?_⟩, ?_⟩
 ·subst hO
  exact mk_ok (b := 16) (show es.length * _ <= _ by omega) (show es.length <= _ by omega)
 ·subst hO
  exact ⟨rfl, rfl⟩
 ·exact ⟨by omega, Nat.zero_le _, h0z.symm⟩
 ·cbv
 ·rintro ⟨i, m⟩ hi
  replace hi : 0 <= i /\ i.toNat <= es.length /\ m = fillR es [.v (.int .i64 0), .v (.int .i64 0)] i.toNat := hi
  obtain ⟨g0, g1, hm⟩ := hi
  cbv
  repeat' first | refine And.intro ?_ ?_ | (refine cbi (fun hb => ?_) (fun hb => ?_) <;> cbv) | (refine loop_step (O.ar .add .i64 i 1, O.up (.s 2 m) [(O.ad 0 i, 0)] [.v (.int .i64 (O.gi es i 0)), .v (.int .i64 (O.gi es i 1))]) ?_ ?_ ?_; rotate_left 2; focus (cbv; done))
  all_goals (subst hO hr hF; (try simp only [stdO, SS, sa, az] at *); (try simp only [nc] at *); (try simp only [onc] at *))
  all_goals (try simp only [LRangeS.F0, repI, List.length_replicate, Int.toNat_natCast] at *)
  all_goals try have hlt : i < es.length := by assumption
  all_goals try rw [inc64 (n := es.length) g0 hlt (by omega)]
  all_goals try have he : es.getD i.toNat [] = [.v (.int .i64 (giI es i 0)), .v (.int .i64 (giI es i 1))] := (etaE_whole hwf g0 hlt).symm
  all_goals try have hct := cntE_at (es := es) (n := i.toNat) (by omega); rw [he] at hct; simp only [cntR, cntL, Nat.add_zero, Nat.zero_add] at hct
  all_goals have hle1 := cntEs_take_le (es := es) (n := i.toNat + 1)
  all_goals have hcE : cntE es = es.length + cntEs es := rfl
  all_goals first | exact row_ro hwf g0 hlt | exact ⟨g0, hlt⟩ | (rw [hm]; exact getR_some (by rw [fillR_length g1]; omega) (by rw [fillR_getD (by omega)]; exact Nat.le_refl _)) | omega | (rw [show (i + 1).toNat = i.toNat + 1 from by omega, <- fillR_set (by omega), <- hm, upI_one (by rw [hm, fillR_getD (by omega)]; rfl), he]) | (rw [hm, fillR_length g1]; exact ⟨trivial, rfl⟩) | (rw [hm, show i.toNat = es.length from by omega, fillR_all]) | trivial | exact ⟨trivial, trivial⟩ | (refine ⟨?_⟩; simp only [cntRs, cntE, Nat.add_zero]; omega) | trace_state
theorem c_laws_eqRangeS (es : List (List L)) (d : DV) (hp : d = .one (.s 2 es) /\ Rw [tI, tI] es /\ cntE es <= 1099511627776) : Ctr Tryz.prog 46 [.one (.s 2 es), d] [.one (.v (.bool true))] := by
 obtain ⟨rfl, hw, hlim⟩ := hp
 have hwf : Wf [.v (.int .i64 0), .v (.int .i64 0)] es := hw.wf
 have hlen : es.length <= 1099511627776 := Nat.le_trans (Nat.le_add_right _ _) hlim
 refine ctr_b LRangeS.B tabOk mixed 27 _ [4] [.tmp 4] Tryz.func46 rfl rfl rfl rfl rfl ?_
 intro O r (F : LRangeS.Fns) hO hr (hF : F = LRangeS.F0)
 cbv
 refine cbi (fun hb => ?_) (fun hb => ?_) <;> cbv
 ·(subst hO hr hF; (try simp only [stdO, SS, sa, az] at *); (try simp only [nc] at *); (try simp only [onc] at *)); exact absurd rfl hb
 ·clear hb
  refine ⟨[0, 1, 5], [], Int, fun i => [.reg 5 (.one (.v (.int .i64 i)))], fun i => 0 <= i /\ i.toNat <= es.length, fun i => es.length - i.toNat, ⟨0, ?_, ?_⟩, ?_⟩
  ·exact ⟨by omega, Nat.zero_le _⟩
  ·cbv
  ·rintro i hi
   replace hi : 0 <= i /\ i.toNat <= es.length := hi
   obtain ⟨g0, g1⟩ := hi
   cbv
   repeat' first | refine And.intro ?_ ?_ | (refine cbi (fun hb => ?_) (fun hb => ?_) <;> cbv) | (refine loop_step (O.ar .add .i64 i 1) ?_ ?_ ?_; rotate_left 2; focus (cbv; done))
   all_goals (subst hO hr hF; (try simp only [stdO, SS, sa, az] at *); (try simp only [nc] at *); (try simp only [onc] at *))
   all_goals (try simp only [LRangeS.F0] at *)
   all_goals try have hlt : i < es.length := by assumption
   all_goals try rw [inc64 (n := es.length) g0 hlt (by omega)]
   all_goals try have he : es.getD i.toNat [] = [.v (.int .i64 (giI es i 0)), .v (.int .i64 (giI es i 1))] := (etaE_whole hwf g0 hlt).symm
   all_goals try have hct := cntE_at (es := es) (n := i.toNat) (by omega); rw [he] at hct; simp only [cntR, cntL, Nat.add_zero, Nat.zero_add] at hct
   all_goals have hle1 := cntEs_take_le (es := es) (n := i.toNat + 1)
   all_goals have hcE : cntE es = es.length + cntEs es := rfl
   all_goals first | omega | exact row_ro hwf g0 hlt | exact absurd rfl hb | exact absurd rfl (by assumption) | trivial | kernel_rfl | exact ⟨trivial, trivial⟩ | (refine ⟨trivial, ?_⟩; simp only [cntRs, cntE, Nat.add_zero]; omega) | trace_state
namespace LSpan
structure Fns where
 no : Unit
def F0 : Fns := ⟨()⟩
def B : TB Tryz.prog := {Φ := Fns, F0 := F0}
end LSpan
theorem c_laws_toSpan (a0 a1 a2 : Int) (hp : True) : Ctr Tryz.prog 102 [.agg [.v (.int .i64 a0), .v (.int .i64 a1), .v (.int .i64 a2)]] [.agg [.v (.int .i64 a0), .v (.int .i64 a1), .v (.int .i64 a2)]] := by
 refine ctr_b LSpan.B tabOk mixed 14 _ [158] [.cell 2 158] Tryz.func102 rfl rfl rfl rfl rfl ?_
 intro O r (F : LSpan.Fns) hO hr (hF : F = LSpan.F0)
 cbv
 repeat' first | refine And.intro ?_ ?_ | (refine cbi (fun hb => ?_) (fun hb => ?_) <;> cbv)
 all_goals (subst hO hr hF; (try simp only [stdO, SS, sa, az] at *); (try simp only [nc] at *); (try simp only [onc] at *))
 all_goals (try simp only [LSpan.F0] at *)
 all_goals first | trivial | exact rfl | exact ⟨trivial, trivial⟩ | exact ⟨rfl, rfl⟩ | (refine ⟨by assumption, ?_⟩; (try simp only [cntRs, Nat.add_zero]); omega) | ((try simp only [cntRs, Nat.add_zero]); omega) | trace_state
theorem c_laws_eqSpan (a0 a1 a2 : Int) (d : DV) (hp : d = .agg [.v (.int .i64 a0), .v (.int .i64 a1), .v (.int .i64 a2)]) : Ctr Tryz.prog 123 [.agg [.v (.int .i64 a0), .v (.int .i64 a1), .v (.int .i64 a2)], d] [.one (.v (.bool true))] := by
 subst hp
 refine ctr_b LSpan.B tabOk mixed 20 _ [4] [.tmp 4] Tryz.func123 rfl rfl rfl rfl rfl ?_
 intro O r (F : LSpan.Fns) hO hr (hF : F = LSpan.F0)
 cbv
 repeat' first | refine And.intro ?_ ?_ | (refine cbi (fun hb => ?_) (fun hb => ?_) <;> cbv)
 all_goals (subst hO hr hF; (try simp only [stdO, SS, sa, az] at *); (try simp only [nc] at *); (try simp only [onc] at *))
 all_goals (try simp only [LSpan.F0] at *)
 all_goals first | trivial | exact rfl | exact absurd rfl hb | exact absurd rfl (by assumption) | (refine ⟨trivial, by assumption, ?_⟩; (try simp only [cntRs, Nat.add_zero]); omega) | (refine ⟨trivial, ?_⟩; (try simp only [cntRs, Nat.add_zero]); omega) | trace_state
namespace LSpanS
structure Fns where
 no : Unit
def F0 : Fns := ⟨()⟩
def ct (F : Fns) : CT := fun f ds => match f with
 | 102 => match ds with
   | [.agg [.v (.int .i64 a0), .v (.int .i64 a1), .v (.int .i64 a2)]] => some (fun _ => True, [.agg [.v (.int .i64 a0), .v (.int .i64 a1), .v (.int .i64 a2)]])
   | _ => none
 | 123 => match ds with
   | [.agg [.v (.int .i64 a0), .v (.int .i64 a1), .v (.int .i64 a2)], d] => some (fun _ => d = .agg [.v (.int .i64 a0), .v (.int .i64 a1), .v (.int .i64 a2)], [.one (.v (.bool true))])
   | _ => none
 | _ => none
theorem ct_ok : CTok Tryz.prog (ct F0) := by
 intro f ds pre res h hp
 unfold ct at h
 split at h <;> (try split at h) <;> cases h
 exact c_laws_toSpan _ _ _ hp
 exact c_laws_eqSpan _ _ _ _ hp
def B : TB Tryz.prog := tb ct_ok
end LSpanS
theorem c_laws_szSpanS (es : List (List L)) (left : Int) (hp : Rw [tI, tI, tI] es /\ 0 <= left /\ left <= 1048576) : Ctr Tryz.prog 18 [.one (.s 3 es), .one (.v (.int .i64 left))] [.one (.v (.int .i64 (szN0 [es] left)))] := by
 obtain ⟨hw, h0, h1⟩ := hp
 have hc : cntE es = es.length := hw.cnt rfl
 have hm := hw.1; unfold maxLen at hm
 have hs : arI .sub .i64 left es.length = left - es.length := sub64 (by omega)
 have hn : szN0 [es] left = if left < es.length then -1 else left - es.length := by unfold szN0; rw [cntRs_one, hc]
 refine ctr_b LSpanS.B tabOk mixed 12 _ [3] [.tmp 4] Tryz.func18 rfl rfl rfl rfl rfl ?_
 intro O r (F : LSpanS.Fns) hO hr (hF : F = LSpanS.F0)
 cbv
 repeat' first | refine And.intro ?_ ?_ | (refine cbi (fun hb => ?_) (fun hb => ?_) <;> cbv)
 all_goals (subst hO hr hF; (try simp only [stdO, SS, sa, az] at *); (try simp only [nc] at *); (try simp only [onc] at *))
 all_goals (try simp only [hs, LSpanS.F0] at *)
 all_goals first | trivial | (rw [hn, if_pos (by omega)]) | (rw [hn, if_neg (by omega)])
theorem c_laws_toSpanS (es : List (List L)) (hp : Rw [tI, tI, tI] es /\ cntE es <= 1048576) : Ctr Tryz.prog 30 [.one (.s 3 es)] [.one (.s 3 es)] := by
 obtain ⟨hw, hlim⟩ := hp
 have hwf : Wf [.v (.int .i64 0), .v (.int .i64 0), .v (.int .i64 0)] es := hw.wf
 have hlen : es.length <= 1048576 := Nat.le_trans (Nat.le_add_right _ _) hlim
 refine ctr_b LSpanS.B tabOk mixed 23 _ [62] [.tmp 2] Tryz.func30 rfl rfl rfl rfl rfl ?_
 intro O r (F : LSpanS.Fns) hO hr (hF : F = LSpanS.F0)
 cbv
 have h0z : fillR es [.v (.int .i64 0), .v (.int .i64 0), .v (.int .i64 0)] 0 = O.rep (O.zi (O.ln es)) [.v (.int .i64 0), .v (.int .i64 0), .v (.int .i64 0)] := by
  subst hO
  rw [fillR_zero]; rfl
 refine ⟨?_, ?_, [0, 3, 4], [3], Int × List (List L), fun s => [.reg 4 (.one (.v (.int .i64 s.1))), .leaf 3 0 ⟨0, 0, none, .own (.s 3 s.2)⟩], fun s => 0 <= s.1 /\ s.1.toNat <= es.length /\ s.2 = fillR es [.v (.int .i64 0), .v (.int .i64 0), .v (.int .i64 0)] s.1.toNat, fun s => es.length - s.1.toNat, ⟨(0, O.rep (O.zi (O.ln es)) [.v (.int .i64 0), .v (.int .i64 0), .v (.int .i64 0)]), ?_, ?_⟩, ?_⟩
 ·subst hO
  exact mk_ok (b := 24) (show es.length * _ <= _ by omega) (show es.length <= _ by omega)
 ·subst hO
  exact ⟨rfl, rfl⟩
 ·exact ⟨by omega, Nat.zero_le _, h0z.symm⟩
 ·cbv
 ·rintro ⟨i, m⟩ hi
  replace hi : 0 <= i /\ i.toNat <= es.length /\ m = fillR es [.v (.int .i64 0), .v (.int .i64 0), .v (.int .i64 0)] i.toNat := hi
  obtain ⟨g0, g1, hm⟩ := hi
  cbv
  repeat' first | refine And.intro ?_ ?_ | (refine cbi (fun hb => ?_) (fun hb => ?_) <;> cbv) | (refine loop_step (O.ar .add .i64 i 1, O.up (.s 3 m) [(O.ad 0 i, 0)] [.v (.int .i64 (O.gi es i 0)), .v (.int .i64 (O.gi es i 1)), .v (.int .i64 (O.gi es i 2))]) ?_ ?_ ?_; rotate_left 2; focus (cbv; done))
  all_goals (subst hO hr hF; (try simp only [stdO, SS, sa, az] at *); (try simp only [nc] at *); (try simp only [onc] at *))
  all_goals (try simp only [LSpanS.F0, repI, List.length_replicate, Int.toNat_natCast] at *)
  all_goals try have hlt : i < es.length := by assumption
  all_goals try rw [inc64 (n := es.length) g0 hlt (by omega)]
  all_goals try have he : es.getD i.toNat [] = [.v (.int .i64 (giI es i 0)), .v (.int .i64 (giI es i 1)), .v (.int .i64 (giI es i 2))] := (etaE_whole hwf g0 hlt).symm
  all_goals try have hct := cntE_at (es := es) (n := i.toNat) (by omega); rw [he] at hct; simp only [cntR, cntL, Nat.add_zero, Nat.zero_add] at hct
  all_goals have hle1 := cntEs_take_le (es := es) (n := i.toNat + 1)
  all_goals have hcE : cntE es = es.length + cntEs es := rfl
  all_goals first | exact row_ro hwf g0 hlt | exact ⟨g0, hlt⟩ | (rw [hm]; exact getR_some (by rw [fillR_length g1]; omega) (by rw [fillR_getD (by omega)]; exact Nat.le_refl _)) | omega | (rw [show (i + 1).toNat = i.toNat + 1 from by omega, <- fillR_set (by omega), <- hm, upI_one (by rw [hm, fillR_getD (by omega)]; rfl), he]) | (rw [hm, fillR_length g1]; exact ⟨trivial, rfl⟩) | (rw [hm, show i.toNat = es.length from by omega, fillR_all]) | trivial | exact ⟨trivial, trivial⟩ | (refine ⟨?_⟩; simp only [cntRs, cntE, Nat.add_zero]; omega) | trace_state
theorem c_laws_eqSpanS (es : List (List L)) (d : DV) (hp : d = .one (.s 3 es) /\ Rw [tI, tI, tI] es /\ cntE es <= 1099511627776) : Ctr Tryz.prog 47 [.one (.s 3 es), d] [.one (.v (.bool true))] := by
 obtain ⟨rfl, hw, hlim⟩ := hp
 have hwf : Wf [.v (.int .i64 0), .v (.int .i64 0), .v (.int .i64 0)] es := hw.wf
 have hlen : es.length <= 1099511627776 := Nat.le_trans (Nat.le_add_right _ _) hlim
 refine ctr_b LSpanS.B tabOk mixed 27 _ [4] [.tmp 4] Tryz.func47 rfl rfl rfl rfl rfl ?_
 intro O r (F : LSpanS.Fns) hO hr (hF : F = LSpanS.F0)
 cbv
 refine cbi (fun hb => ?_) (fun hb => ?_) <;> cbv
 ·(subst hO hr hF; (try simp only [stdO, SS, sa, az] at *); (try simp only [nc] at *); (try simp only [onc] at *)); exact absurd rfl hb
 ·clear hb
  refine ⟨[0, 1, 5], [], Int, fun i => [.reg 5 (.one (.v (.int .i64 i)))], fun i => 0 <= i /\ i.toNat <= es.length, fun i => es.length - i.toNat, ⟨0, ?_, ?_⟩, ?_⟩
  ·exact ⟨by omega, Nat.zero_le _⟩
  ·cbv
  ·rintro i hi
   replace hi : 0 <= i /\ i.toNat <= es.length := hi
   obtain ⟨g0, g1⟩ := hi
   cbv
   repeat' first | refine And.intro ?_ ?_ | (refine cbi (fun hb => ?_) (fun hb => ?_) <;> cbv) | (refine loop_step (O.ar .add .i64 i 1) ?_ ?_ ?_; rotate_left 2; focus (cbv; done))
   all_goals (subst hO hr hF; (try simp only [stdO, SS, sa, az] at *); (try simp only [nc] at *); (try simp only [onc] at *))
   all_goals (try simp only [LSpanS.F0] at *)
   all_goals try have hlt : i < es.length := by assumption
   all_goals try rw [inc64 (n := es.length) g0 hlt (by omega)]
   all_goals try have he : es.getD i.toNat [] = [.v (.int .i64 (giI es i 0)), .v (.int .i64 (giI es i 1)), .v (.int .i64 (giI es i 2))] := (etaE_whole hwf g0 hlt).symm
   all_goals try have hct := cntE_at (es := es) (n := i.toNat) (by omega); rw [he] at hct; simp only [cntR, cntL, Nat.add_zero, Nat.zero_add] at hct
   all_goals have hle1 := cntEs_take_le (es := es) (n := i.toNat + 1)
   all_goals have hcE : cntE es = es.length + cntEs es := rfl
   all_goals first | omega | exact row_ro hwf g0 hlt | exact absurd rfl hb | exact absurd rfl (by assumption) | trivial | kernel_rfl | exact ⟨trivial, trivial⟩ | (refine ⟨trivial, ?_⟩; simp only [cntRs, cntE, Nat.add_zero]; omega) | trace_state
namespace LLarge
structure Fns where
 no : Unit
def F0 : Fns := ⟨()⟩
def B : TB Tryz.prog := {Φ := Fns, F0 := F0}
end LLarge
theorem c_laws_toLarge (a0 a1 a2 : Int) (hp : True) : Ctr Tryz.prog 103 [.agg [.v (.int .i64 a0), .v (.int .i64 a1), .v (.int .i64 a2)]] [.agg [.v (.int .i64 a0), .v (.int .i64 a1), .v (.int .i64 a2)]] := by
 refine ctr_b LLarge.B tabOk mixed 14 _ [162] [.cell 2 162] Tryz.func103 rfl rfl rfl rfl rfl ?_
 intro O r (F : LLarge.Fns) hO hr (hF : F = LLarge.F0)
 cbv
 repeat' first | refine And.intro ?_ ?_ | (refine cbi (fun hb => ?_) (fun hb => ?_) <;> cbv)
 all_goals (subst hO hr hF; (try simp only [stdO, SS, sa, az] at *); (try simp only [nc] at *); (try simp only [onc] at *))
 all_goals (try simp only [LLarge.F0] at *)
 all_goals first | trivial | exact rfl | exact ⟨trivial, trivial⟩ | exact ⟨rfl, rfl⟩ | (refine ⟨by assumption, ?_⟩; (try simp only [cntRs, Nat.add_zero]); omega) | ((try simp only [cntRs, Nat.add_zero]); omega) | trace_state
theorem c_laws_eqLarge (a0 a1 a2 : Int) (d : DV) (hp : d = .agg [.v (.int .i64 a0), .v (.int .i64 a1), .v (.int .i64 a2)]) : Ctr Tryz.prog 124 [.agg [.v (.int .i64 a0), .v (.int .i64 a1), .v (.int .i64 a2)], d] [.one (.v (.bool true))] := by
 subst hp
 refine ctr_b LLarge.B tabOk mixed 20 _ [4] [.tmp 4] Tryz.func124 rfl rfl rfl rfl rfl ?_
 intro O r (F : LLarge.Fns) hO hr (hF : F = LLarge.F0)
 cbv
 repeat' first | refine And.intro ?_ ?_ | (refine cbi (fun hb => ?_) (fun hb => ?_) <;> cbv)
 all_goals (subst hO hr hF; (try simp only [stdO, SS, sa, az] at *); (try simp only [nc] at *); (try simp only [onc] at *))
 all_goals (try simp only [LLarge.F0] at *)
 all_goals first | trivial | exact rfl | exact absurd rfl hb | exact absurd rfl (by assumption) | (refine ⟨trivial, by assumption, ?_⟩; (try simp only [cntRs, Nat.add_zero]); omega) | (refine ⟨trivial, ?_⟩; (try simp only [cntRs, Nat.add_zero]); omega) | trace_state
namespace LLargeS
structure Fns where
 no : Unit
def F0 : Fns := ⟨()⟩
def ct (F : Fns) : CT := fun f ds => match f with
 | 103 => match ds with
   | [.agg [.v (.int .i64 a0), .v (.int .i64 a1), .v (.int .i64 a2)]] => some (fun _ => True, [.agg [.v (.int .i64 a0), .v (.int .i64 a1), .v (.int .i64 a2)]])
   | _ => none
 | 124 => match ds with
   | [.agg [.v (.int .i64 a0), .v (.int .i64 a1), .v (.int .i64 a2)], d] => some (fun _ => d = .agg [.v (.int .i64 a0), .v (.int .i64 a1), .v (.int .i64 a2)], [.one (.v (.bool true))])
   | _ => none
 | _ => none
theorem ct_ok : CTok Tryz.prog (ct F0) := by
 intro f ds pre res h hp
 unfold ct at h
 split at h <;> (try split at h) <;> cases h
 exact c_laws_toLarge _ _ _ hp
 exact c_laws_eqLarge _ _ _ _ hp
def B : TB Tryz.prog := tb ct_ok
end LLargeS
theorem c_laws_szLargeS (es : List (List L)) (left : Int) (hp : Rw [tI, tI, tI] es /\ 0 <= left /\ left <= 1048576) : Ctr Tryz.prog 19 [.one (.s 3 es), .one (.v (.int .i64 left))] [.one (.v (.int .i64 (szN0 [es] left)))] := by
 obtain ⟨hw, h0, h1⟩ := hp
 have hc : cntE es = es.length := hw.cnt rfl
 have hm := hw.1; unfold maxLen at hm
 have hs : arI .sub .i64 left es.length = left - es.length := sub64 (by omega)
 have hn : szN0 [es] left = if left < es.length then -1 else left - es.length := by unfold szN0; rw [cntRs_one, hc]
 refine ctr_b LLargeS.B tabOk mixed 12 _ [3] [.tmp 4] Tryz.func19 rfl rfl rfl rfl rfl ?_
 intro O r (F : LLargeS.Fns) hO hr (hF : F = LLargeS.F0)
 cbv
 repeat' first | refine And.intro ?_ ?_ | (refine cbi (fun hb => ?_) (fun hb => ?_) <;> cbv)
 all_goals (subst hO hr hF; (try simp only [stdO, SS, sa, az] at *); (try simp only [nc] at *); (try simp only [onc] at *))
 all_goals (try simp only [hs, LLargeS.F0] at *)
 all_goals first | trivial | (rw [hn, if_pos (by omega)]) | (rw [hn, if_neg (by omega)])
theorem c_laws_toLargeS (es : List (List L)) (hp : Rw [tI, tI, tI] es /\ cntE es <= 1048576) : Ctr Tryz.prog 31 [.one (.s 3 es)] [.one (.s 3 es)] := by
 obtain ⟨hw, hlim⟩ := hp
 have hwf : Wf [.v (.int .i64 0), .v (.int .i64 0), .v (.int .i64 0)] es := hw.wf
 have hlen : es.length <= 1048576 := Nat.le_trans (Nat.le_add_right _ _) hlim
 refine ctr_b LLargeS.B tabOk mixed 23 _ [63] [.tmp 2] Tryz.func31 rfl rfl rfl rfl rfl ?_
 intro O r (F : LLargeS.Fns) hO hr (hF : F = LLargeS.F0)
 cbv
 have h0z : fillR es [.v (.int .i64 0), .v (.int .i64 0), .v (.int .i64 0)] 0 = O.rep (O.zi (O.ln es)) [.v (.int .i64 0), .v (.int .i64 0), .v (.int .i64 0)] := by
  subst hO
  rw [fillR_zero]; rfl
 refine ⟨?_, ?_, [0, 3, 4], [3], Int × List (List L), fun s => [.reg 4 (.one (.v (.int .i64 s.1))), .leaf 3 0 ⟨0, 0, none, .own (.s 3 s.2)⟩], fun s => 0 <= s.1 /\ s.1.toNat <= es.length /\ s.2 = fillR es [.v (.int .i64 0), .v (.int .i64 0), .v (.int .i64 0)] s.1.toNat, fun s => es.length - s.1.toNat, ⟨(0, O.rep (O.zi (O.ln es)) [.v (.int .i64 0), .v (.int .i64 0), .v (.int .i64 0)]), ?_, ?_⟩, ?_⟩
 ·subst hO
  exact mk_ok (b := 24) (show es.length * _ <= _ by omega) (show es.length <= _ by omega)
 ·subst hO
  exact ⟨rfl, rfl⟩
 ·exact ⟨by omega, Nat.zero_le _, h0z.symm⟩
 ·cbv
 ·rintro ⟨i, m⟩ hi
  replace hi : 0 <= i /\ i.toNat <= es.length /\ m = fillR es [.v (.int .i64 0), .v (.int .i64 0), .v (.int .i64 0)] i.toNat := hi
  obtain ⟨g0, g1, hm⟩ := hi
  cbv
  repeat' first | refine And.intro ?_ ?_ | (refine cbi (fun hb => ?_) (fun hb => ?_) <;> cbv) | (refine loop_step (O.ar .add .i64 i 1, O.up (.s 3 m) [(O.ad 0 i, 0)] [.v (.int .i64 (O.gi es i 0)), .v (.int .i64 (O.gi es i 1)), .v (.int .i64 (O.gi es i 2))]) ?_ ?_ ?_; rotate_left 2; focus (cbv; done))
  all_goals (subst hO hr hF; (try simp only [stdO, SS, sa, az] at *); (try simp only [nc] at *); (try simp only [onc] at *))
  all_goals (try simp only [LLargeS.F0, repI, List.length_replicate, Int.toNat_natCast] at *)
  all_goals try have hlt : i < es.length := by assumption
  all_goals try rw [inc64 (n := es.length) g0 hlt (by omega)]
  all_goals try have he : es.getD i.toNat [] = [.v (.int .i64 (giI es i 0)), .v (.int .i64 (giI es i 1)), .v (.int .i64 (giI es i 2))] := (etaE_whole hwf g0 hlt).symm
  all_goals try have hct := cntE_at (es := es) (n := i.toNat) (by omega); rw [he] at hct; simp only [cntR, cntL, Nat.add_zero, Nat.zero_add] at hct
  all_goals have hle1 := cntEs_take_le (es := es) (n := i.toNat + 1)
  all_goals have hcE : cntE es = es.length + cntEs es := rfl
  all_goals first | exact row_ro hwf g0 hlt | exact ⟨g0, hlt⟩ | (rw [hm]; exact getR_some (by rw [fillR_length g1]; omega) (by rw [fillR_getD (by omega)]; exact Nat.le_refl _)) | omega | (rw [show (i + 1).toNat = i.toNat + 1 from by omega, <- fillR_set (by omega), <- hm, upI_one (by rw [hm, fillR_getD (by omega)]; rfl), he]) | (rw [hm, fillR_length g1]; exact ⟨trivial, rfl⟩) | (rw [hm, show i.toNat = es.length from by omega, fillR_all]) | trivial | exact ⟨trivial, trivial⟩ | (refine ⟨?_⟩; simp only [cntRs, cntE, Nat.add_zero]; omega) | trace_state
theorem c_laws_eqLargeS (es : List (List L)) (d : DV) (hp : d = .one (.s 3 es) /\ Rw [tI, tI, tI] es /\ cntE es <= 1099511627776) : Ctr Tryz.prog 48 [.one (.s 3 es), d] [.one (.v (.bool true))] := by
 obtain ⟨rfl, hw, hlim⟩ := hp
 have hwf : Wf [.v (.int .i64 0), .v (.int .i64 0), .v (.int .i64 0)] es := hw.wf
 have hlen : es.length <= 1099511627776 := Nat.le_trans (Nat.le_add_right _ _) hlim
 refine ctr_b LLargeS.B tabOk mixed 27 _ [4] [.tmp 4] Tryz.func48 rfl rfl rfl rfl rfl ?_
 intro O r (F : LLargeS.Fns) hO hr (hF : F = LLargeS.F0)
 cbv
 refine cbi (fun hb => ?_) (fun hb => ?_) <;> cbv
 ·(subst hO hr hF; (try simp only [stdO, SS, sa, az] at *); (try simp only [nc] at *); (try simp only [onc] at *)); exact absurd rfl hb
 ·clear hb
  refine ⟨[0, 1, 5], [], Int, fun i => [.reg 5 (.one (.v (.int .i64 i)))], fun i => 0 <= i /\ i.toNat <= es.length, fun i => es.length - i.toNat, ⟨0, ?_, ?_⟩, ?_⟩
  ·exact ⟨by omega, Nat.zero_le _⟩
  ·cbv
  ·rintro i hi
   replace hi : 0 <= i /\ i.toNat <= es.length := hi
   obtain ⟨g0, g1⟩ := hi
   cbv
   repeat' first | refine And.intro ?_ ?_ | (refine cbi (fun hb => ?_) (fun hb => ?_) <;> cbv) | (refine loop_step (O.ar .add .i64 i 1) ?_ ?_ ?_; rotate_left 2; focus (cbv; done))
   all_goals (subst hO hr hF; (try simp only [stdO, SS, sa, az] at *); (try simp only [nc] at *); (try simp only [onc] at *))
   all_goals (try simp only [LLargeS.F0] at *)
   all_goals try have hlt : i < es.length := by assumption
   all_goals try rw [inc64 (n := es.length) g0 hlt (by omega)]
   all_goals try have he : es.getD i.toNat [] = [.v (.int .i64 (giI es i 0)), .v (.int .i64 (giI es i 1)), .v (.int .i64 (giI es i 2))] := (etaE_whole hwf g0 hlt).symm
   all_goals try have hct := cntE_at (es := es) (n := i.toNat) (by omega); rw [he] at hct; simp only [cntR, cntL, Nat.add_zero, Nat.zero_add] at hct
   all_goals have hle1 := cntEs_take_le (es := es) (n := i.toNat + 1)
   all_goals have hcE : cntE es = es.length + cntEs es := rfl
   all_goals first | omega | exact row_ro hwf g0 hlt | exact absurd rfl hb | exact absurd rfl (by assumption) | trivial | kernel_rfl | exact ⟨trivial, trivial⟩ | (refine ⟨trivial, ?_⟩; simp only [cntRs, cntE, Nat.add_zero]; omega) | trace_state
end Go.V