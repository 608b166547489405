/-
  Contracts, by evaluation.
-/import Derived.Test.YticfhgfgobafbaaGreatS9
import Derived.Test.YticfhgfgobafbaaGreatVE
set_option linter.all false
namespace Go.V
open Go Go.Proofs
set_option maxRecDepth 1000000
set_option maxHeartbeats 8000000
namespace LObj
structure Fns where
 no : Unit
def F0 : Fns := ⟨()⟩
def B : TB Tryz.prog := {Φ := Fns, F0 := F0}
end LObj
theorem c_laws_toObj (a0 a1 a2 a3 : Int) (hp : True) : Ctr Tryz.prog 104 [.agg [.v (.int .i64 a0), .v (.int .i64 a1), .v (.int .i64 a2), .v (.int .i64 a3)]] [.agg [.v (.int .i64 a0), .v (.int .i64 a1), .v (.int .i64 a2), .v (.int .i64 a3)]] := by
 refine ctr_b LObj.B tabOk mixed 17 _ [150] [.cell 2 150] Tryz.func104 rfl rfl rfl rfl rfl ?_
 intro O r (F : LObj.Fns) hO hr (hF : F = LObj.F0)
 cbv
 repeat' first | refine And.intro ?_ ?_ | (refine cbi (fun hb => ?_) (fun hb => ?_) <;> cbv)
 all_goals (subst hO hr hF; (try simp only [stdO, SS, sa, az] at *); (try simp only [nc] at *); (try simp only [onc] at *))
 all_goals (try simp only [LObj.F0] at *)
 all_goals first | trivial | exact rfl | exact ⟨trivial, trivial⟩ | exact ⟨rfl, rfl⟩ | (refine ⟨by assumption, ?_⟩; (try simp only [cntRs, Nat.add_zero]); omega) | ((try simp only [cntRs, Nat.add_zero]); omega) | trace_state
theorem c_laws_eqObj (a0 a1 a2 a3 : Int) (d : DV) (hp : d = .agg [.v (.int .i64 a0), .v (.int .i64 a1), .v (.int .i64 a2), .v (.int .i64 a3)]) : Ctr Tryz.prog 125 [.agg [.v (.int .i64 a0), .v (.int .i64 a1), .v (.int .i64 a2), .v (.int .i64 a3)], d] [.one (.v (.bool true))] := by
 subst hp
 refine ctr_b LObj.B tabOk mixed 25 _ [4] [.tmp 4] Tryz.func125 rfl rfl rfl rfl rfl ?_
 intro O r (F : LObj.Fns) hO hr (hF : F = LObj.F0)
 cbv
 repeat' first | refine And.intro ?_ ?_ | (refine cbi (fun hb => ?_) (fun hb => ?_) <;> cbv)
 all_goals (subst hO hr hF; (try simp only [stdO, SS, sa, az] at *); (try simp only [nc] at *); (try simp only [onc] at *))
 all_goals (try simp only [LObj.F0] at *)
 all_goals first | trivial | exact rfl | exact absurd rfl hb | exact absurd rfl (by assumption) | (refine ⟨trivial, by assumption, ?_⟩; (try simp only [cntRs, Nat.add_zero]); omega) | (refine ⟨trivial, ?_⟩; (try simp only [cntRs, Nat.add_zero]); omega) | trace_state
namespace LObjS
structure Fns where
 no : Unit
def F0 : Fns := ⟨()⟩
def ct (F : Fns) : CT := fun f ds => match f with
 | 104 => match ds with
   | [.agg [.v (.int .i64 a0), .v (.int .i64 a1), .v (.int .i64 a2), .v (.int .i64 a3)]] => some (fun _ => True, [.agg [.v (.int .i64 a0), .v (.int .i64 a1), .v (.int .i64 a2), .v (.int .i64 a3)]])
   | _ => none
 | 125 => match ds with
   | [.agg [.v (.int .i64 a0), .v (.int .i64 a1), .v (.int .i64 a2), .v (.int .i64 a3)], d] => some (fun _ => d = .agg [.v (.int .i64 a0), .v (.int .i64 a1), .v (.int .i64 a2), .v (.int .i64 a3)], [.one (.v (.bool true))])
   | _ => none
 | _ => none
theorem ct_ok : CTok Tryz.prog (ct F0) := by
 intro f ds pre res h hp
 unfold ct at h
 split at h <;> (try split at h) <;> cases h
 exact c_laws_toObj _ _ _ _ hp
 exact c_laws_eqObj _ _ _ _ _ hp
def B : TB Tryz.prog := tb ct_ok
end LObjS
theorem c_laws_szObjS (es : List (List L)) (left : Int) (hp : Rw [tI, tI, tI, tI] es /\ 0 <= left /\ left <= 1048576) : Ctr Tryz.prog 20 [.one (.s 4 es), .one (.v (.int .i64 left))] [.one (.v (.int .i64 (szN0 [es] left)))] := by
 obtain ⟨hw, h0, h1⟩ := hp
 have hc : cntE es = es.length := hw.cnt rfl
 have hm := hw.1; unfold maxLen at hm
 have hs : arI .sub .i64 left es.length = left - es.length := sub64 (by omega)
 have hn : szN0 [es] left = if left < es.length then -1 else left - es.length := by unfold szN0; rw [cntRs_one, hc]
 refine ctr_b LObjS.B tabOk mixed 12 _ [3] [.tmp 4] Tryz.func20 rfl rfl rfl rfl rfl ?_
 intro O r (F : LObjS.Fns) hO hr (hF : F = LObjS.F0)
 cbv
 repeat' first | refine And.intro ?_ ?_ | (refine cbi (fun hb => ?_) (fun hb => ?_) <;> cbv)
 all_goals (subst hO hr hF; (try simp only [stdO, SS, sa, az] at *); (try simp only [nc] at *); (try simp only [onc] at *))
 all_goals (try simp only [hs, LObjS.F0] at *)
 all_goals first | trivial | (rw [hn, if_pos (by omega)]) | (rw [hn, if_neg (by omega)])
theorem c_laws_toObjS (es : List (List L)) (hp : Rw [tI, tI, tI, tI] es /\ cntE es <= 1048576) : Ctr Tryz.prog 32 [.one (.s 4 es)] [.one (.s 4 es)] := by
 obtain ⟨hw, hlim⟩ := hp
 have hwf : Wf [.v (.int .i64 0), .v (.int .i64 0), .v (.int .i64 0), .v (.int .i64 0)] es := hw.wf
 have hlen : es.length <= 1048576 := Nat.le_trans (Nat.le_add_right _ _) hlim
 refine ctr_b LObjS.B tabOk mixed 23 _ [64] [.tmp 2] Tryz.func32 rfl rfl rfl rfl rfl ?_
 intro O r (F : LObjS.Fns) hO hr (hF : F = LObjS.F0)
 cbv
 have h0z : fillR es [.v (.int .i64 0), .v (.int .i64 0), .v (.int .i64 0), .v (.int .i64 0)] 0 = O.rep (O.zi (O.ln es)) [.v (.int .i64 0), .v (.int .i64 0), .v (.int .i64 0), .v (.int .i64 0)] := by
  subst hO
  rw [fillR_zero]; rfl
 refine ⟨?_, ?_, [0, 3, 4], [3], Int × List (List L), fun s => [.reg 4 (.one (.v (.int .i64 s.1))), .leaf 3 0 ⟨0, 0, none, .own (.s 4 s.2)⟩], fun s => 0 <= s.1 /\ s.1.toNat <= es.length /\ s.2 = fillR es [.v (.int .i64 0), .v (.int .i64 0), .v (.int .i64 0), .v (.int .i64 0)] s.1.toNat, fun s => es.length - s.1.toNat, ⟨(0, O.rep (O.zi (O.ln es)) [.v (.int .i64 0), .v (.int .i64 0), .v (.int .i64 0), .v (.int .i64 0)]), ?_, ?_⟩, ?_⟩
 ·subst hO
  exact mk_ok (b := 32) (show es.length * _ <= _ by omega) (show es.length <= _ by omega)
 ·subst hO
  exact ⟨rfl, rfl⟩
 ·exact ⟨by omega, Nat.zero_le _, h0z.symm⟩
 ·cbv
 ·rintro ⟨i, m⟩ hi
  replace hi : 0 <= i /\ i.toNat <= es.length /\ m = fillR es [.v (.int .i64 0), .v (.int .i64 0), .v (.int .i64 0), .v (.int .i64 0)] i.toNat := hi
  obtain ⟨g0, g1, hm⟩ := hi
  cbv
  repeat' first | refine And.intro ?_ ?_ | (refine cbi (fun hb => ?_) (fun hb => ?_) <;> cbv) | (refine loop_step (O.ar .add .i64 i 1, O.up (.s 4 m) [(O.ad 0 i, 0)] [.v (.int .i64 (O.gi es i 0)), .v (.int .i64 (O.gi es i 1)), .v (.int .i64 (O.gi es i 2)), .v (.int .i64 (O.gi es i 3))]) ?_ ?_ ?_; rotate_left 2; focus (cbv; done))
  all_goals (subst hO hr hF; (try simp only [stdO, SS, sa, az] at *); (try simp only [nc] at *); (try simp only [onc] at *))
  all_goals (try simp only [LObjS.F0, repI, List.length_replicate, Int.toNat_natCast] at *)
  all_goals try have hlt : i < es.length := by assumption
  all_goals try rw [inc64 (n := es.length) g0 hlt (by omega)]
  all_goals try have he : es.getD i.toNat [] = [.v (.int .i64 (giI es i 0)), .v (.int .i64 (giI es i 1)), .v (.int .i64 (giI es i 2)), .v (.int .i64 (giI es i 3))] := (etaE_whole hwf g0 hlt).symm
  all_goals try have hct := cntE_at (es := es) (n := i.toNat) (by omega); rw [he] at hct; simp only [cntR, cntL, Nat.add_zero, Nat.zero_add] at hct
  all_goals have hle1 := cntEs_take_le (es := es) (n := i.toNat + 1)
  all_goals have hcE : cntE es = es.length + cntEs es := rfl
  all_goals first | exact row_ro hwf g0 hlt | exact ⟨g0, hlt⟩ | (rw [hm]; exact getR_some (by rw [fillR_length g1]; omega) (by rw [fillR_getD (by omega)]; exact Nat.le_refl _)) | omega | (rw [show (i + 1).toNat = i.toNat + 1 from by omega, <- fillR_set (by omega), <- hm, upI_one (by rw [hm, fillR_getD (by omega)]; rfl), he]) | (rw [hm, fillR_length g1]; exact ⟨trivial, rfl⟩) | (rw [hm, show i.toNat = es.length from by omega, fillR_all]) | trivial | exact ⟨trivial, trivial⟩ | (refine ⟨?_⟩; simp only [cntRs, cntE, Nat.add_zero]; omega) | trace_state
theorem c_laws_eqObjS (es : List (List L)) (d : DV) (hp : d = .one (.s 4 es) /\ Rw [tI, tI, tI, tI] es /\ cntE es <= 1099511627776) : Ctr Tryz.prog 49 [.one (.s 4 es), d] [.one (.v (.bool true))] := by
 obtain ⟨rfl, hw, hlim⟩ := hp
 have hwf : Wf [.v (.int .i64 0), .v (.int .i64 0), .v (.int .i64 0), .v (.int .i64 0)] es := hw.wf
 have hlen : es.length <= 1099511627776 := Nat.le_trans (Nat.le_add_right _ _) hlim
 refine ctr_b LObjS.B tabOk mixed 27 _ [4] [.tmp 4] Tryz.func49 rfl rfl rfl rfl rfl ?_
 intro O r (F : LObjS.Fns) hO hr (hF : F = LObjS.F0)
 cbv
 refine cbi (fun hb => ?_) (fun hb => ?_) <;> cbv
 ·(subst hO hr hF; (try simp only [stdO, SS, sa, az] at *); (try simp only [nc] at *); (try simp only [onc] at *)); exact absurd rfl hb
 ·clear hb
  refine ⟨[0, 1, 5], [], Int, fun i => [.reg 5 (.one (.v (.int .i64 i)))], fun i => 0 <= i /\ i.toNat <= es.length, fun i => es.length - i.toNat, ⟨0, ?_, ?_⟩, ?_⟩
  ·exact ⟨by omega, Nat.zero_le _⟩
  ·cbv
  ·rintro i hi
   replace hi : 0 <= i /\ i.toNat <= es.length := hi
   obtain ⟨g0, g1⟩ := hi
   cbv
   repeat' first | refine And.intro ?_ ?_ | (refine cbi (fun hb => ?_) (fun hb => ?_) <;> cbv) | (refine loop_step (O.ar .add .i64 i 1) ?_ ?_ ?_; rotate_left 2; focus (cbv; done))
   all_goals (subst hO hr hF; (try simp only [stdO, SS, sa, az] at *); (try simp only [nc] at *); (try simp only [onc] at *))
   all_goals (try simp only [LObjS.F0] at *)
   all_goals try have hlt : i < es.length := by assumption
   all_goals try rw [inc64 (n := es.length) g0 hlt (by omega)]
   all_goals try have he : es.getD i.toNat [] = [.v (.int .i64 (giI es i 0)), .v (.int .i64 (giI es i 1)), .v (.int .i64 (giI es i 2)), .v (.int .i64 (giI es i 3))] := (etaE_whole hwf g0 hlt).symm
   all_goals try have hct := cntE_at (es := es) (n := i.toNat) (by omega); rw [he] at hct; simp only [cntR, cntL, Nat.add_zero, Nat.zero_add] at hct
   all_goals have hle1 := cntEs_take_le (es := es) (n := i.toNat + 1)
   all_goals have hcE : cntE es = es.length + cntEs es := rfl
   all_goals first | omega | exact row_ro hwf g0 hlt | exact absurd rfl hb | exact absurd rfl (by assumption) | trivial | kernel_rfl | exact ⟨trivial, trivial⟩ | (refine ⟨trivial, ?_⟩; simp only [cntRs, cntE, Nat.add_zero]; omega) | trace_state
namespace LStale
structure Fns where
 no : Unit
def F0 : Fns := ⟨()⟩
def B : TB Tryz.prog := {Φ := Fns, F0 := F0}
end LStale
theorem c_laws_toStale (a0 a1 a2 : Int) (hp : True) : Ctr Tryz.prog 182 [.agg [.v (.int .i64 a0), .v (.int .i64 a1), .v (.int .i64 a2)]] [.agg [.v (.int .i64 a0), .v (.int .i64 a1), .v (.int .i64 a2)]] := by
 refine ctr_b LStale.B tabOk mixed 14 _ [135] [.cell 2 135] Tryz.func182 rfl rfl rfl rfl rfl ?_
 intro O r (F : LStale.Fns) hO hr (hF : F = LStale.F0)
 cbv
 repeat' first | refine And.intro ?_ ?_ | (refine cbi (fun hb => ?_) (fun hb => ?_) <;> cbv)
 all_goals (subst hO hr hF; (try simp only [stdO, SS, sa, az] at *); (try simp only [nc] at *); (try simp only [onc] at *))
 all_goals (try simp only [LStale.F0] at *)
 all_goals first | trivial | exact rfl | exact ⟨trivial, trivial⟩ | exact ⟨rfl, rfl⟩ | (refine ⟨by assumption, ?_⟩; (try simp only [cntRs, Nat.add_zero]); omega) | ((try simp only [cntRs, Nat.add_zero]); omega) | trace_state
theorem c_laws_eqStale (a0 a1 a2 : Int) (d : DV) (hp : d = .agg [.v (.int .i64 a0), .v (.int .i64 a1), .v (.int .i64 a2)]) : Ctr Tryz.prog 192 [.agg [.v (.int .i64 a0), .v (.int .i64 a1), .v (.int .i64 a2)], d] [.one (.v (.bool true))] := by
 subst hp
 refine ctr_b LStale.B tabOk mixed 20 _ [4] [.tmp 4] Tryz.func192 rfl rfl rfl rfl rfl ?_
 intro O r (F : LStale.Fns) hO hr (hF : F = LStale.F0)
 cbv
 repeat' first | refine And.intro ?_ ?_ | (refine cbi (fun hb => ?_) (fun hb => ?_) <;> cbv)
 all_goals (subst hO hr hF; (try simp only [stdO, SS, sa, az] at *); (try simp only [nc] at *); (try simp only [onc] at *))
 all_goals (try simp only [LStale.F0] at *)
 all_goals first | trivial | exact rfl | exact absurd rfl hb | exact absurd rfl (by assumption) | (refine ⟨trivial, by assumption, ?_⟩; (try simp only [cntRs, Nat.add_zero]); omega) | (refine ⟨trivial, ?_⟩; (try simp only [cntRs, Nat.add_zero]); omega) | trace_state
namespace LStaleS
structure Fns where
 no : Unit
def F0 : Fns := ⟨()⟩
def ct (F : Fns) : CT := fun f ds => match f with
 | 182 => match ds with
   | [.agg [.v (.int .i64 a0), .v (.int .i64 a1), .v (.int .i64 a2)]] => some (fun _ => True, [.agg [.v (.int .i64 a0), .v (.int .i64 a1), .v (.int .i64 a2)]])
   | _ => none
 | 192 => match ds with
   | [.agg [.v (.int .i64 a0), .v (.int .i64 a1), .v (.int .i64 a2)], d] => some (fun _ => d = .agg [.v (.int .i64 a0), .v (.int .i64 a1), .v (.int .i64 a2)], [.one (.v (.bool true))])
   | _ => none
 | _ => none
theorem ct_ok : CTok Tryz.prog (ct F0) := by
 intro f ds pre res h hp
 unfold ct at h
 split at h <;> (try split at h) <;> cases h
 exact c_laws_toStale _ _ _ hp
 exact c_laws_eqStale _ _ _ _ hp
def B : TB Tryz.prog := tb ct_ok
end LStaleS
theorem c_laws_szStaleS (es : List (List L)) (left : Int) (hp : Rw [tI, tI, tI] es /\ 0 <= left /\ left <= 1048576) : Ctr Tryz.prog 95 [.one (.s 3 es), .one (.v (.int .i64 left))] [.one (.v (.int .i64 (szN0 [es] left)))] := by
 obtain ⟨hw, h0, h1⟩ := hp
 have hc : cntE es = es.length := hw.cnt rfl
 have hm := hw.1; unfold maxLen at hm
 have hs : arI .sub .i64 left es.length = left - es.length := sub64 (by omega)
 have hn : szN0 [es] left = if left < es.length then -1 else left - es.length := by unfold szN0; rw [cntRs_one, hc]
 refine ctr_b LStaleS.B tabOk mixed 12 _ [3] [.tmp 4] Tryz.func95 rfl rfl rfl rfl rfl ?_
 intro O r (F : LStaleS.Fns) hO hr (hF : F = LStaleS.F0)
 cbv
 repeat' first | refine And.intro ?_ ?_ | (refine cbi (fun hb => ?_) (fun hb => ?_) <;> cbv)
 all_goals (subst hO hr hF; (try simp only [stdO, SS, sa, az] at *); (try simp only [nc] at *); (try simp only [onc] at *))
 all_goals (try simp only [hs, LStaleS.F0] at *)
 all_goals first | trivial | (rw [hn, if_pos (by omega)]) | (rw [hn, if_neg (by omega)])
theorem c_laws_toStaleS (es : List (List L)) (hp : Rw [tI, tI, tI] es /\ cntE es <= 1048576) : Ctr Tryz.prog 108 [.one (.s 3 es)] [.one (.s 3 es)] := by
 obtain ⟨hw, hlim⟩ := hp
 have hwf : Wf [.v (.int .i64 0), .v (.int .i64 0), .v (.int .i64 0)] es := hw.wf
 have hlen : es.length <= 1048576 := Nat.le_trans (Nat.le_add_right _ _) hlim
 refine ctr_b LStaleS.B tabOk mixed 23 _ [69] [.tmp 2] Tryz.func108 rfl rfl rfl rfl rfl ?_
 intro O r (F : LStaleS.Fns) hO hr (hF : F = LStaleS.F0)
 cbv
 have h0z : fillR es [.v (.int .i64 0), .v (.int .i64 0), .v (.int .i64 0)] 0 = O.rep (O.zi (O.ln es)) [.v (.int .i64 0), .v (.int .i64 0), .v (.int .i64 0)] := by
  subst hO
  rw [fillR_zero]; rfl
 refine ⟨?_, ?_, [0, 3, 4], [3], Int × List (List L), fun s => [.reg 4 (.one (.v (.int .i64 s.1))), .leaf 3 0 ⟨0, 0, none, .own (.s 3 s.2)⟩], fun s => 0 <= s.1 /\ s.1.toNat <= es.length /\ s.2 = fillR es [.v (.int .i64 0), .v (.int .i64 0), .v (.int .i64 0)] s.1.toNat, fun s => es.length - s.1.toNat, ⟨(0, O.rep (O.zi (O.ln es)) [.v (.int .i64 0), .v (.int .i64 0), .v (.int .i64 0)]), ?_, ?_⟩, ?_⟩
 ·subst hO
  exact mk_ok (b := 24) (show es.length * _ <= _ by omega) (show es.length <= _ by omega)
 ·subst hO
  exact ⟨rfl, rfl⟩
 ·exact ⟨by omega, Nat.zero_le _, h0z.symm⟩
 ·cbv
 ·rintro ⟨i, m⟩ hi
  replace hi : 0 <= i /\ i.toNat <= es.length /\ m = fillR es [.v (.int .i64 0), .v (.int .i64 0), .v (.int .i64 0)] i.toNat := hi
  obtain ⟨g0, g1, hm⟩ := hi
  cbv
  repeat' first | refine And.intro ?_ ?_ | (refine cbi (fun hb => ?_) (fun hb => ?_) <;> cbv) | (refine loop_step (O.ar .add .i64 i 1, O.up (.s 3 m) [(O.ad 0 i, 0)] [.v (.int .i64 (O.gi es i 0)), .v (.int .i64 (O.gi es i 1)), .v (.int .i64 (O.gi es i 2))]) ?_ ?_ ?_; rotate_left 2; focus (cbv; done))
  all_goals (subst hO hr hF; (try simp only [stdO, SS, sa, az] at *); (try simp only [nc] at *); (try simp only [onc] at *))
  all_goals (try simp only [LStaleS.F0, repI, List.length_replicate, Int.toNat_natCast] at *)
  all_goals try have hlt : i < es.length := by assumption
  all_goals try rw [inc64 (n := es.length) g0 hlt (by omega)]
  all_goals try have he : es.getD i.toNat [] = [.v (.int .i64 (giI es i 0)), .v (.int .i64 (giI es i 1)), .v (.int .i64 (giI es i 2))] := (etaE_whole hwf g0 hlt).symm
  all_goals try have hct := cntE_at (es := es) (n := i.toNat) (by omega); rw [he] at hct; simp only [cntR, cntL, Nat.add_zero, Nat.zero_add] at hct
  all_goals have hle1 := cntEs_take_le (es := es) (n := i.toNat + 1)
  all_goals have hcE : cntE es = es.length + cntEs es := rfl
  all_goals first | exact row_ro hwf g0 hlt | exact ⟨g0, hlt⟩ | (rw [hm]; exact getR_some (by rw [fillR_length g1]; omega) (by rw [fillR_getD (by omega)]; exact Nat.le_refl _)) | omega | (rw [show (i + 1).toNat = i.toNat + 1 from by omega, <- fillR_set (by omega), <- hm, upI_one (by rw [hm, fillR_getD (by omega)]; rfl), he]) | (rw [hm, fillR_length g1]; exact ⟨trivial, rfl⟩) | (rw [hm, show i.toNat = es.length from by omega, fillR_all]) | trivial | exact ⟨trivial, trivial⟩ | (refine ⟨?_⟩; simp only [cntRs, cntE, Nat.add_zero]; omega) | trace_state
theorem c_laws_eqStaleS (es : List (List L)) (d : DV) (hp : d = .one (.s 3 es) /\ Rw [tI, tI, tI] es /\ cntE es <= 1099511627776) : Ctr Tryz.prog 129 [.one (.s 3 es), d] [.one (.v (.bool true))] := by
 obtain ⟨rfl, hw, hlim⟩ := hp
 have hwf : Wf [.v (.int .i64 0), .v (.int .i64 0), .v (.int .i64 0)] es := hw.wf
 have hlen : es.length <= 1099511627776 := Nat.le_trans (Nat.le_add_right _ _) hlim
 refine ctr_b LStaleS.B tabOk mixed 27 _ [4] [.tmp 4] Tryz.func129 rfl rfl rfl rfl rfl ?_
 intro O r (F : LStaleS.Fns) hO hr (hF : F = LStaleS.F0)
 cbv
 refine cbi (fun hb => ?_) (fun hb => ?_) <;> cbv
 ·(subst hO hr hF; (try simp only [stdO, SS, sa, az] at *); (try simp only [nc] at *); (try simp only [onc] at *)); exact absurd rfl hb
 ·clear hb
  refine ⟨[0, 1, 5], [], Int, fun i => [.reg 5 (.one (.v (.int .i64 i)))], fun i => 0 <= i /\ i.toNat <= es.length, fun i => es.length - i.toNat, ⟨0, ?_, ?_⟩, ?_⟩
  ·exact ⟨by omega, Nat.zero_le _⟩
  ·cbv
  ·rintro i hi
   replace hi : 0 <= i /\ i.toNat <= es.length := hi
   obtain ⟨g0, g1⟩ := hi
   cbv
   repeat' first | refine And.intro ?_ ?_ | (refine cbi (fun hb => ?_) (fun hb => ?_) <;> cbv) | (refine loop_step (O.ar .add .i64 i 1) ?_ ?_ ?_; rotate_left 2; focus (cbv; done))
   all_goals (subst hO hr hF; (try simp only [stdO, SS, sa, az] at *); (try simp only [nc] at *); (try simp only [onc] at *))
   all_goals (try simp only [LStaleS.F0] at *)
   all_goals try have hlt : i < es.length := by assumption
   all_goals try rw [inc64 (n := es.length) g0 hlt (by omega)]
   all_goals try have he : es.getD i.toNat [] = [.v (.int .i64 (giI es i 0)), .v (.int .i64 (giI es i 1)), .v (.int .i64 (giI es i 2))] := (etaE_whole hwf g0 hlt).symm
   all_goals try have hct := cntE_at (es := es) (n := i.toNat) (by omega); rw [he] at hct; simp only [cntR, cntL, Nat.add_zero, Nat.zero_add] at hct
   all_goals have hle1 := cntEs_take_le (es := es) (n := i.toNat + 1)
   all_goals have hcE : cntE es = es.length + cntEs es := rfl
   all_goals first | omega | exact row_ro hwf g0 hlt | exact absurd rfl hb | exact absurd rfl (by assumption) | trivial | kernel_rfl | exact ⟨trivial, trivial⟩ | (refine ⟨trivial, ?_⟩; simp only [cntRs, cntE, Nat.add_zero]; omega) | trace_state
namespace LPost
structure Fns where
 no : Unit
def F0 : Fns := ⟨()⟩
def B : TB Tryz.prog := {Φ := Fns, F0 := F0}
end LPost
theorem c_laws_toPost (a0 a1 : Int) (hp : True) : Ctr Tryz.prog 219 [.agg [.v (.int .i64 a0), .v (.int .i64 a1)]] [.agg [.v (.int .i64 a0), .v (.int .i64 a1)]] := by
 refine ctr_b LPost.B tabOk mixed 11 _ [174] [.cell 2 174] Tryz.func219 rfl rfl rfl rfl rfl ?_
 intro O r (F : LPost.Fns) hO hr (hF : F = LPost.F0)
 cbv
 repeat' first | refine And.intro ?_ ?_ | (refine cbi (fun hb => ?_) (fun hb => ?_) <;> cbv)
 all_goals (subst hO hr hF; (try simp only [stdO, SS, sa, az] at *); (try simp only [nc] at *); (try simp only [onc] at *))
 all_goals (try simp only [LPost.F0] at *)
 all_goals first | trivial | exact rfl | exact ⟨trivial, trivial⟩ | exact ⟨rfl, rfl⟩ | (refine ⟨by assumption, ?_⟩; (try simp only [cntRs, Nat.add_zero]); omega) | ((try simp only [cntRs, Nat.add_zero]); omega) | trace_state
theorem c_laws_eqPost (a0 a1 : Int) (d : DV) (hp : d = .agg [.v (.int .i64 a0), .v (.int .i64 a1)]) : Ctr Tryz.prog 234 [.agg [.v (.int .i64 a0), .v (.int .i64 a1)], d] [.one (.v (.bool true))] := by
 subst hp
 refine ctr_b LPost.B tabOk mixed 15 _ [4] [.tmp 4] Tryz.func234 rfl rfl rfl rfl rfl ?_
 intro O r (F : LPost.Fns) hO hr (hF : F = LPost.F0)
 cbv
 repeat' first | refine And.intro ?_ ?_ | (refine cbi (fun hb => ?_) (fun hb => ?_) <;> cbv)
 all_goals (subst hO hr hF; (try simp only [stdO, SS, sa, az] at *); (try simp only [nc] at *); (try simp only [onc] at *))
 all_goals (try simp only [LPost.F0] at *)
 all_goals first | trivial | exact rfl | exact absurd rfl hb | exact absurd rfl (by assumption) | (refine ⟨trivial, by assumption, ?_⟩; (try simp only [cntRs, Nat.add_zero]); omega) | (refine ⟨trivial, ?_⟩; (try simp only [cntRs, Nat.add_zero]); omega) | trace_state
namespace LPostS
structure Fns where
 no : Unit
def F0 : Fns := ⟨()⟩
def ct (F : Fns) : CT := fun f ds => match f with
 | 219 => match ds with
   | [.agg [.v (.int .i64 a0), .v (.int .i64 a1)]] => some (fun _ => True, [.agg [.v (.int .i64 a0), .v (.int .i64 a1)]])
   | _ => none
 | 234 => match ds with
   | [.agg [.v (.int .i64 a0), .v (.int .i64 a1)], d] => some (fun _ => d = .agg [.v (.int .i64 a0), .v (.int .i64 a1)], [.one (.v (.bool true))])
   | _ => none
 | _ => none
theorem ct_ok : CTok Tryz.prog (ct F0) := by
 intro f ds pre res h hp
 unfold ct at h
 split at h <;> (try split at h) <;> cases h
 exact c_laws_toPost _ _ hp
 exact c_laws_eqPost _ _ _ hp
def B : TB Tryz.prog := tb ct_ok
end LPostS
theorem c_laws_szPostS (es : List (List L)) (left : Int) (hp : Rw [tI, tI] es /\ 0 <= left /\ left <= 1048576) : Ctr Tryz.prog 174 [.one (.s 2 es), .one (.v (.int .i64 left))] [.one (.v (.int .i64 (szN0 [es] left)))] := by
 obtain ⟨hw, h0, h1⟩ := hp
 have hc : cntE es = es.length := hw.cnt rfl
 have hm := hw.1; unfold maxLen at hm
 have hs : arI .sub .i64 left es.length = left - es.length := sub64 (by omega)
 have hn : szN0 [es] left = if left < es.length then -1 else left - es.length := by unfold szN0; rw [cntRs_one, hc]
 refine ctr_b LPostS.B tabOk mixed 12 _ [3] [.tmp 4] Tryz.func174 rfl rfl rfl rfl rfl ?_
 intro O r (F : LPostS.Fns) hO hr (hF : F = LPostS.F0)
 cbv
 repeat' first | refine And.intro ?_ ?_ | (refine cbi (fun hb => ?_) (fun hb => ?_) <;> cbv)
 all_goals (subst hO hr hF; (try simp only [stdO, SS, sa, az] at *); (try simp only [nc] at *); (try simp only [onc] at *))
 all_goals (try simp only [hs, LPostS.F0] at *)
 all_goals first | trivial | (rw [hn, if_pos (by omega)]) | (rw [hn, if_neg (by omega)])
theorem c_laws_toPostS (es : List (List L)) (hp : Rw [tI, tI] es /\ cntE es <= 1048576) : Ctr Tryz.prog 181 [.one (.s 2 es)] [.one (.s 2 es)] := by
 obtain ⟨hw, hlim⟩ := hp
 have hwf : Wf [.v (.int .i64 0), .v (.int .i64 0)] es := hw.wf
 have hlen : es.length <= 1048576 := Nat.le_trans (Nat.le_add_right _ _) hlim
 refine ctr_b LPostS.B tabOk mixed 23 _ [172] [.tmp 2] Tryz.func181 rfl rfl rfl rfl rfl ?_
 intro O r (F : LPostS.Fns) hO hr (hF : F = LPostS.F0)
 cbv
 have h0z : fillR es [.v (.int .i64 0), .v (.int .i64 0)] 0 = O.rep (O.zi (O.ln es)) [.v (.int .i64 0), .v (.int .i64 0)] := by
  subst hO
  rw [fillR_zero]; rfl
 refine ⟨?_, ?_, [0, 3, 4], [3], Int × List (List L), fun s => [.reg 4 (.one (.v (.int .i64 s.1))), .leaf 3 0 ⟨0, 0, none, .own (.s 2 s.2)⟩], fun s => 0 <= s.1 /\ s.1.toNat <= es.length /\ s.2 = fillR es [.v (.int .i64 0), .v (.int .i64 0)] s.1.toNat, fun s => es.length - s.1.toNat, ⟨(0, O.rep (O.zi (O.ln es)) [.v (.int .i64 0), .v (.int .i64 0)]), ?_, ?_⟩, ?_⟩
 ·subst hO
  exact mk_ok (b := 16) (show es.length * _ <= _ by omega) (show es.length <= _ by omega)
 ·subst hO
  exact ⟨rfl, rfl⟩
 ·exact ⟨by omega, Nat.zero_le _, h0z.symm⟩
 ·cbv
 ·rintro ⟨i, m⟩ hi
  replace hi : 0 <= i /\ i.toNat <= es.length /\ m = fillR es [.v (.int .i64 0), .v (.int .i64 0)] i.toNat := hi
  obtain ⟨g0, g1, hm⟩ := hi
  cbv
  repeat' first | refine And.intro ?_ ?_ | (refine cbi (fun hb => ?_) (fun hb => ?_) <;> cbv) | (refine loop_step (O.ar .add .i64 i 1, O.up (.s 2 m) [(O.ad 0 i, 0)] [.v (.int .i64 (O.gi es i 0)), .v (.int .i64 (O.gi es i 1))]) ?_ ?_ ?_; rotate_left 2; focus (cbv; done))
  all_goals (subst hO hr hF; (try simp only [stdO, SS, sa, az] at *); (try simp only [nc] at *); (try simp only [onc] at *))
  all_goals (try simp only [LPostS.F0, repI, List.length_replicate, Int.toNat_natCast] at *)
  all_goals try have hlt : i < es.length := by assumption
  all_goals try rw [inc64 (n := es.length) g0 hlt (by omega)]
  all_goals try have he : es.getD i.toNat [] = [.v (.int .i64 (giI es i 0)), .v (.int .i64 (giI es i 1))] := (etaE_whole hwf g0 hlt).symm
  all_goals try have hct := cntE_at (es := es) (n := i.toNat) (by omega); rw [he] at hct; simp only [cntR, cntL, Nat.add_zero, Nat.zero_add] at hct
  all_goals have hle1 := cntEs_take_le (es := es) (n := i.toNat + 1)
  all_goals have hcE : cntE es = es.length + cntEs es := rfl
  all_goals first | exact row_ro hwf g0 hlt | exact ⟨g0, hlt⟩ | (rw [hm]; exact getR_some (by rw [fillR_length g1]; omega) (by rw [fillR_getD (by omega)]; exact Nat.le_refl _)) | omega | (rw [show (i + 1).toNat = i.toNat + 1 from by omega, <- fillR_set (by omega), <- hm, upI_one (by rw [hm, fillR_getD (by omega)]; rfl), he]) | (rw [hm, fillR_length g1]; exact ⟨trivial, rfl⟩) | (rw [hm, show i.toNat = es.length from by omega, fillR_all]) | trivial | exact ⟨trivial, trivial⟩ | (refine ⟨?_⟩; simp only [cntRs, cntE, Nat.add_zero]; omega) | trace_state
theorem c_laws_eqPostS (es : List (List L)) (d : DV) (hp : d = .one (.s 2 es) /\ Rw [tI, tI] es /\ cntE es <= 1099511627776) : Ctr Tryz.prog 191 [.one (.s 2 es), d] [.one (.v (.bool true))] := by
 obtain ⟨rfl, hw, hlim⟩ := hp
 have hwf : Wf [.v (.int .i64 0), .v (.int .i64 0)] es := hw.wf
 have hlen : es.length <= 1099511627776 := Nat.le_trans (Nat.le_add_right _ _) hlim
 refine ctr_b LPostS.B tabOk mixed 27 _ [4] [.tmp 4] Tryz.func191 rfl rfl rfl rfl rfl ?_
 intro O r (F : LPostS.Fns) hO hr (hF : F = LPostS.F0)
 cbv
 refine cbi (fun hb => ?_) (fun hb => ?_) <;> cbv
 ·(subst hO hr hF; (try simp only [stdO, SS, sa, az] at *); (try simp only [nc] at *); (try simp only [onc] at *)); exact absurd rfl hb
 ·clear hb
  refine ⟨[0, 1, 5], [], Int, fun i => [.reg 5 (.one (.v (.int .i64 i)))], fun i => 0 <= i /\ i.toNat <= es.length, fun i => es.length - i.toNat, ⟨0, ?_, ?_⟩, ?_⟩
  ·exact ⟨by omega, Nat.zero_le _⟩
  ·cbv
  ·rintro i hi
   replace hi : 0 <= i /\ i.toNat <= es.length := hi
   obtain ⟨g0, g1⟩ := hi
   cbv
   repeat' first | refine And.intro ?_ ?_ | (refine cbi (fun hb => ?_) (fun hb => ?_) <;> cbv) | (refine loop_step (O.ar .add .i64 i 1) ?_ ?_ ?_; rotate_left 2; focus (cbv; done))
   all_goals (subst hO hr hF; (try simp only [stdO, SS, sa, az] at *); (try simp only [nc] at *); (try simp only [onc] at *))
   all_goals (try simp only [LPostS.F0] at *)
   all_goals try have hlt : i < es.length := by assumption
   all_goals try rw [inc64 (n := es.length) g0 hlt (by omega)]
   all_goals try have he : es.getD i.toNat [] = [.v (.int .i64 (giI es i 0)), .v (.int .i64 (giI es i 1))] := (etaE_whole hwf g0 hlt).symm
   all_goals try have hct := cntE_at (es := es) (n := i.toNat) (by omega); rw [he] at hct; simp only [cntR, cntL, Nat.add_zero, Nat.zero_add] at hct
   all_goals have hle1 := cntEs_take_le (es := es) (n := i.toNat + 1)
   all_goals have hcE : cntE es = es.length + cntEs es := rfl
   all_goals first | omega | exact row_ro hwf g0 hlt | exact absurd rfl hb | exact absurd rfl (by assumption) | trivial | kernel_rfl | exact ⟨trivial, trivial⟩ | (refine ⟨trivial, ?_⟩; simp only [cntRs, cntE, Nat.add_zero]; omega) | trace_state
end Go.V