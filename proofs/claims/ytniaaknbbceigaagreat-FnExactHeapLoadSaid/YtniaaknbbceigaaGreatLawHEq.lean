/-
  Contracts, by evaluation.
-/
import Derived.Test.YtniaaknbbceigaaGreatS10
import Derived.Test.YtniaaknbbceigaaGreatVE
set_option linter.all false
namespace Go.V
open Go Go.Proofs
set_option maxRecDepth 1000000
set_option maxHeartbeats 8000000
namespace LObj
structure Fns where
 no : Unit
def F0 : Fns := ⟨()⟩
def B : TB Tryz.prog := {Φ := Fns, F0 := F0}
end LObj
theorem sr (a0 a1 a2 a3 : Int) (hp : True) : aO Tryz.prog 136 [.agg [.v (.int .i64 a0), .v (.int .i64 a1), .v (.int .i64 a2), .v (.int .i64 a3)]] [.agg [.v (.int .i64 a0), .v (.int .i64 a1), .v (.int .i64 a2), .v (.int .i64 a3)]] := by
 refine aj LObj.B ai mixed 17 _ [151] [.cell 2 151] Tryz.func136 rfl rfl rfl rfl rfl ?_;intro O r (F : LObj.Fns) hO hr (hF : F = LObj.F0);cbv
 repeat' first | refine And.intro ?_ ?_ | (refine aK (fun hb => ?_) (fun hb => ?_) <;> cbv)
 all_goals (subst hO hr hF; (try simp only [ah, SS, sa, az] at *); (try simp only [nc] at *); (try simp only [aF] at *))
 all_goals (try simp only [LObj.F0] at *)
 all_goals first | trivial | exact rfl | exact ⟨trivial, trivial⟩ | exact ⟨rfl, rfl⟩ | (refine ⟨by assumption, ?_⟩; (try simp only [ag, Nat.add_zero]); omega) | ((try simp only [ag, Nat.add_zero]); omega) | trace_state
theorem sn (a0 a1 a2 a3 : Int) (d : DV) (hp : d = .agg [.v (.int .i64 a0), .v (.int .i64 a1), .v (.int .i64 a2), .v (.int .i64 a3)]) : aO Tryz.prog 160 [.agg [.v (.int .i64 a0), .v (.int .i64 a1), .v (.int .i64 a2), .v (.int .i64 a3)], d] [.one (.v (.bool true))] := by
 subst hp;refine aj LObj.B ai mixed 25 _ [4] [.tmp 4] Tryz.func160 rfl rfl rfl rfl rfl ?_;intro O r (F : LObj.Fns) hO hr (hF : F = LObj.F0);cbv
 repeat' first | refine And.intro ?_ ?_ | (refine aK (fun hb => ?_) (fun hb => ?_) <;> cbv)
 all_goals (subst hO hr hF; (try simp only [ah, SS, sa, az] at *); (try simp only [nc] at *); (try simp only [aF] at *))
 all_goals (try simp only [LObj.F0] at *)
 all_goals first | trivial | exact rfl | exact absurd rfl hb | exact absurd rfl (by assumption) | (refine ⟨trivial, by assumption, ?_⟩; (try simp only [ag, Nat.add_zero]); omega) | (refine ⟨trivial, ?_⟩; (try simp only [ag, Nat.add_zero]); omega) | trace_state
namespace LObjS
structure Fns where
 no : Unit
def F0 : Fns := ⟨()⟩
def ct (F : Fns) : CT := fun f ds => match f, ds with
 | 136, [.agg [.v (.int .i64 a0), .v (.int .i64 a1), .v (.int .i64 a2), .v (.int .i64 a3)]] => some (fun _ => True, [.agg [.v (.int .i64 a0), .v (.int .i64 a1), .v (.int .i64 a2), .v (.int .i64 a3)]])
 | 160, [.agg [.v (.int .i64 a0), .v (.int .i64 a1), .v (.int .i64 a2), .v (.int .i64 a3)], d] => some (fun _ => d = .agg [.v (.int .i64 a0), .v (.int .i64 a1), .v (.int .i64 a2), .v (.int .i64 a3)], [.one (.v (.bool true))])
 | _, _ => none
theorem am : aV Tryz.prog (ct F0) := by
 intro f ds pre res h hp;unfold ct at h;split at h <;> (try split at h) <;> cases h
 exact sr _ _ _ _ hp;exact sn _ _ _ _ _ hp
def B : TB Tryz.prog := tb am
end LObjS
theorem qM (es : List (List L)) (left : Int) (hp : Rw [tI, tI, tI, tI] es /\ 0 <= left /\ left <= 1048576) : aO Tryz.prog 39 [.one (.s 4 es), .one (.v (.int .i64 left))] [.one (.v (.int .i64 (aY [es] left)))] := by
 obtain ⟨hw, h0, h1⟩ := hp;have hc : ao es = es.length := hw.cnt rfl;have hm := hw.1; unfold maxLen at hm;have hs : bu .sub .i64 left es.length = left - es.length := ce (by omega);have hn : aY [es] left = if left < es.length then -1 else left - es.length := by unfold aY; rw [cp, hc]
 refine aj LObjS.B ai mixed 12 _ [3] [.tmp 4] Tryz.func39 rfl rfl rfl rfl rfl ?_;intro O r (F : LObjS.Fns) hO hr (hF : F = LObjS.F0);cbv
 repeat' first | refine And.intro ?_ ?_ | (refine aK (fun hb => ?_) (fun hb => ?_) <;> cbv)
 all_goals (subst hO hr hF; (try simp only [ah, SS, sa, az] at *); (try simp only [nc] at *); (try simp only [aF] at *))
 all_goals (try simp only [hs, LObjS.F0] at *)
 all_goals first | trivial | (rw [hn, if_pos (by omega)]) | (rw [hn, if_neg (by omega)])
theorem qQ (es : List (List L)) (hp : Rw [tI, tI, tI, tI] es /\ ao es <= 1048576) : aO Tryz.prog 50 [.one (.s 4 es)] [.one (.s 4 es)] := by
 obtain ⟨hw, hlim⟩ := hp;have hwf : Wf [.v (.int .i64 0), .v (.int .i64 0), .v (.int .i64 0), .v (.int .i64 0)] es := hw.wf;have hlen : es.length <= 1048576 := Nat.le_trans (Nat.le_add_right _ _) hlim;refine aj LObjS.B ai mixed 23 _ [64] [.tmp 2] Tryz.func50 rfl rfl rfl rfl rfl ?_;intro O r (F : LObjS.Fns) hO hr (hF : F = LObjS.F0);cbv;have h0z : bD es [.v (.int .i64 0), .v (.int .i64 0), .v (.int .i64 0), .v (.int .i64 0)] 0 = O.rep (O.zi (O.ln es)) [.v (.int .i64 0), .v (.int .i64 0), .v (.int .i64 0), .v (.int .i64 0)] := by
  subst hO;rw [bV]; rfl
 refine ⟨?_, ?_, [0, 3, 4], [3], Int × List (List L), fun s => [.reg 4 (.one (.v (.int .i64 s.1))), .leaf 3 0 ⟨0, 0, none, .own (.s 4 s.2)⟩], fun s => 0 <= s.1 /\ s.1.toNat <= es.length /\ s.2 = bD es [.v (.int .i64 0), .v (.int .i64 0), .v (.int .i64 0), .v (.int .i64 0)] s.1.toNat, fun s => es.length - s.1.toNat, ⟨(0, O.rep (O.zi (O.ln es)) [.v (.int .i64 0), .v (.int .i64 0), .v (.int .i64 0), .v (.int .i64 0)]), ?_, ?_⟩, ?_⟩
 ·subst hO;exact gK (b := 32) (show es.length * _ <= _ by omega) (show es.length <= _ by omega)
 ·subst hO;exact ⟨rfl, rfl⟩
 ·exact ⟨by omega, Nat.zero_le _, h0z.symm⟩
 ·cbv
 ·rintro ⟨i, m⟩ hi;replace hi : 0 <= i /\ i.toNat <= es.length /\ m = bD es [.v (.int .i64 0), .v (.int .i64 0), .v (.int .i64 0), .v (.int .i64 0)] i.toNat := hi;obtain ⟨g0, g1, hm⟩ := hi;cbv
  repeat' first | refine And.intro ?_ ?_ | (refine aK (fun hb => ?_) (fun hb => ?_) <;> cbv) | (refine aa (O.ar .add .i64 i 1, O.up (.s 4 m) [(O.ad 0 i, 0)] [.v (.int .i64 (O.gi es i 0)), .v (.int .i64 (O.gi es i 1)), .v (.int .i64 (O.gi es i 2)), .v (.int .i64 (O.gi es i 3))]) ?_ ?_ ?_; rotate_left 2; focus (cbv; done))
  all_goals (subst hO hr hF; (try simp only [ah, SS, sa, az] at *); (try simp only [nc] at *); (try simp only [aF] at *))
  all_goals (try simp only [LObjS.F0, lx, List.length_replicate, Int.toNat_natCast] at *)
  all_goals try have hlt : i < es.length := by assumption
  all_goals try rw [cJ (n := es.length) g0 hlt (by omega)]
  all_goals try have he : es.getD i.toNat [] = [.v (.int .i64 (ab es i 0)), .v (.int .i64 (ab es i 1)), .v (.int .i64 (ab es i 2)), .v (.int .i64 (ab es i 3))] := (aH hwf g0 hlt).symm
  all_goals try have hct := bF (es := es) (n := i.toNat) (by omega); rw [he] at hct; simp only [cN, dA, Nat.add_zero, Nat.zero_add] at hct
  all_goals have hle1 := av (es := es) (n := i.toNat + 1)
  all_goals have hcE : ao es = es.length + aS es := rfl
  all_goals first | exact bR hwf g0 hlt | exact ⟨g0, hlt⟩ | (rw [hm]; exact cv (by rw [aE g1]; omega) (by rw [aT (by omega)]; exact Nat.le_refl _)) | omega | (rw [show (i + 1).toNat = i.toNat + 1 from by omega, <- cu (by omega), <- hm, dr (by rw [hm, aT (by omega)]; rfl), he]) | (rw [hm, aE g1]; exact ⟨trivial, rfl⟩) | (rw [hm, show i.toNat = es.length from by omega, cr]) | trivial | exact ⟨trivial, trivial⟩ | (refine ⟨?_⟩; simp only [ag, ao, Nat.add_zero]; omega) | trace_state
theorem qG (es : List (List L)) (d : DV) (hp : d = .one (.s 4 es) /\ Rw [tI, tI, tI, tI] es /\ ao es <= 1099511627776) : aO Tryz.prog 61 [.one (.s 4 es), d] [.one (.v (.bool true))] := by
 obtain ⟨rfl, hw, hlim⟩ := hp;have hwf : Wf [.v (.int .i64 0), .v (.int .i64 0), .v (.int .i64 0), .v (.int .i64 0)] es := hw.wf;have hlen : es.length <= 1099511627776 := Nat.le_trans (Nat.le_add_right _ _) hlim;refine aj LObjS.B ai mixed 27 _ [4] [.tmp 4] Tryz.func61 rfl rfl rfl rfl rfl ?_;intro O r (F : LObjS.Fns) hO hr (hF : F = LObjS.F0);cbv;refine aK (fun hb => ?_) (fun hb => ?_) <;> cbv
 ·(subst hO hr hF; (try simp only [ah, SS, sa, az] at *); (try simp only [nc] at *); (try simp only [aF] at *)); exact absurd rfl hb
 ·clear hb;refine ⟨[0, 1, 5], [], Int, fun i => [.reg 5 (.one (.v (.int .i64 i)))], fun i => 0 <= i /\ i.toNat <= es.length, fun i => es.length - i.toNat, ⟨0, ?_, ?_⟩, ?_⟩
  ·exact ⟨by omega, Nat.zero_le _⟩
  ·cbv
  ·rintro i hi;replace hi : 0 <= i /\ i.toNat <= es.length := hi;obtain ⟨g0, g1⟩ := hi;cbv
   repeat' first | refine And.intro ?_ ?_ | (refine aK (fun hb => ?_) (fun hb => ?_) <;> cbv) | (refine aa (O.ar .add .i64 i 1) ?_ ?_ ?_; rotate_left 2; focus (cbv; done))
   all_goals (subst hO hr hF; (try simp only [ah, SS, sa, az] at *); (try simp only [nc] at *); (try simp only [aF] at *))
   all_goals (try simp only [LObjS.F0] at *)
   all_goals try have hlt : i < es.length := by assumption
   all_goals try rw [cJ (n := es.length) g0 hlt (by omega)]
   all_goals try have he : es.getD i.toNat [] = [.v (.int .i64 (ab es i 0)), .v (.int .i64 (ab es i 1)), .v (.int .i64 (ab es i 2)), .v (.int .i64 (ab es i 3))] := (aH hwf g0 hlt).symm
   all_goals try have hct := bF (es := es) (n := i.toNat) (by omega); rw [he] at hct; simp only [cN, dA, Nat.add_zero, Nat.zero_add] at hct
   all_goals have hle1 := av (es := es) (n := i.toNat + 1)
   all_goals have hcE : ao es = es.length + aS es := rfl
   all_goals first | omega | exact bR hwf g0 hlt | exact absurd rfl hb | exact absurd rfl (by assumption) | trivial | kernel_rfl | exact ⟨trivial, trivial⟩ | (refine ⟨trivial, ?_⟩; simp only [ag, ao, Nat.add_zero]; omega) | trace_state
namespace LStale
structure Fns where
 no : Unit
def F0 : Fns := ⟨()⟩
def B : TB Tryz.prog := {Φ := Fns, F0 := F0}
end LStale
theorem oX (a0 a1 a2 : Int) (hp : True) : aO Tryz.prog 213 [.agg [.v (.int .i64 a0), .v (.int .i64 a1), .v (.int .i64 a2)]] [.agg [.v (.int .i64 a0), .v (.int .i64 a1), .v (.int .i64 a2)]] := by
 refine aj LStale.B ai mixed 14 _ [188] [.cell 2 188] Tryz.func213 rfl rfl rfl rfl rfl ?_;intro O r (F : LStale.Fns) hO hr (hF : F = LStale.F0);cbv
 repeat' first | refine And.intro ?_ ?_ | (refine aK (fun hb => ?_) (fun hb => ?_) <;> cbv)
 all_goals (subst hO hr hF; (try simp only [ah, SS, sa, az] at *); (try simp only [nc] at *); (try simp only [aF] at *))
 all_goals (try simp only [LStale.F0] at *)
 all_goals first | trivial | exact rfl | exact ⟨trivial, trivial⟩ | exact ⟨rfl, rfl⟩ | (refine ⟨by assumption, ?_⟩; (try simp only [ag, Nat.add_zero]); omega) | ((try simp only [ag, Nat.add_zero]); omega) | trace_state
theorem oJ (a0 a1 a2 : Int) (d : DV) (hp : d = .agg [.v (.int .i64 a0), .v (.int .i64 a1), .v (.int .i64 a2)]) : aO Tryz.prog 232 [.agg [.v (.int .i64 a0), .v (.int .i64 a1), .v (.int .i64 a2)], d] [.one (.v (.bool true))] := by
 subst hp;refine aj LStale.B ai mixed 20 _ [4] [.tmp 4] Tryz.func232 rfl rfl rfl rfl rfl ?_;intro O r (F : LStale.Fns) hO hr (hF : F = LStale.F0);cbv
 repeat' first | refine And.intro ?_ ?_ | (refine aK (fun hb => ?_) (fun hb => ?_) <;> cbv)
 all_goals (subst hO hr hF; (try simp only [ah, SS, sa, az] at *); (try simp only [nc] at *); (try simp only [aF] at *))
 all_goals (try simp only [LStale.F0] at *)
 all_goals first | trivial | exact rfl | exact absurd rfl hb | exact absurd rfl (by assumption) | (refine ⟨trivial, by assumption, ?_⟩; (try simp only [ag, Nat.add_zero]); omega) | (refine ⟨trivial, ?_⟩; (try simp only [ag, Nat.add_zero]); omega) | trace_state
namespace LStaleS
structure Fns where
 no : Unit
def F0 : Fns := ⟨()⟩
def ct (F : Fns) : CT := fun f ds => match f, ds with
 | 213, [.agg [.v (.int .i64 a0), .v (.int .i64 a1), .v (.int .i64 a2)]] => some (fun _ => True, [.agg [.v (.int .i64 a0), .v (.int .i64 a1), .v (.int .i64 a2)]])
 | 232, [.agg [.v (.int .i64 a0), .v (.int .i64 a1), .v (.int .i64 a2)], d] => some (fun _ => d = .agg [.v (.int .i64 a0), .v (.int .i64 a1), .v (.int .i64 a2)], [.one (.v (.bool true))])
 | _, _ => none
theorem am : aV Tryz.prog (ct F0) := by
 intro f ds pre res h hp;unfold ct at h;split at h <;> (try split at h) <;> cases h
 exact oX _ _ _ hp;exact oJ _ _ _ _ hp
def B : TB Tryz.prog := tb am
end LStaleS
theorem mV (es : List (List L)) (left : Int) (hp : Rw [tI, tI, tI] es /\ 0 <= left /\ left <= 1048576) : aO Tryz.prog 116 [.one (.s 3 es), .one (.v (.int .i64 left))] [.one (.v (.int .i64 (aY [es] left)))] := by
 obtain ⟨hw, h0, h1⟩ := hp;have hc : ao es = es.length := hw.cnt rfl;have hm := hw.1; unfold maxLen at hm;have hs : bu .sub .i64 left es.length = left - es.length := ce (by omega);have hn : aY [es] left = if left < es.length then -1 else left - es.length := by unfold aY; rw [cp, hc]
 refine aj LStaleS.B ai mixed 12 _ [3] [.tmp 4] Tryz.func116 rfl rfl rfl rfl rfl ?_;intro O r (F : LStaleS.Fns) hO hr (hF : F = LStaleS.F0);cbv
 repeat' first | refine And.intro ?_ ?_ | (refine aK (fun hb => ?_) (fun hb => ?_) <;> cbv)
 all_goals (subst hO hr hF; (try simp only [ah, SS, sa, az] at *); (try simp only [nc] at *); (try simp only [aF] at *))
 all_goals (try simp only [hs, LStaleS.F0] at *)
 all_goals first | trivial | (rw [hn, if_pos (by omega)]) | (rw [hn, if_neg (by omega)])
theorem nb (es : List (List L)) (hp : Rw [tI, tI, tI] es /\ ao es <= 1048576) : aO Tryz.prog 140 [.one (.s 3 es)] [.one (.s 3 es)] := by
 obtain ⟨hw, hlim⟩ := hp;have hwf : Wf [.v (.int .i64 0), .v (.int .i64 0), .v (.int .i64 0)] es := hw.wf;have hlen : es.length <= 1048576 := Nat.le_trans (Nat.le_add_right _ _) hlim;refine aj LStaleS.B ai mixed 23 _ [69] [.tmp 2] Tryz.func140 rfl rfl rfl rfl rfl ?_;intro O r (F : LStaleS.Fns) hO hr (hF : F = LStaleS.F0);cbv;have h0z : bD es [.v (.int .i64 0), .v (.int .i64 0), .v (.int .i64 0)] 0 = O.rep (O.zi (O.ln es)) [.v (.int .i64 0), .v (.int .i64 0), .v (.int .i64 0)] := by
  subst hO;rw [bV]; rfl
 refine ⟨?_, ?_, [0, 3, 4], [3], Int × List (List L), fun s => [.reg 4 (.one (.v (.int .i64 s.1))), .leaf 3 0 ⟨0, 0, none, .own (.s 3 s.2)⟩], fun s => 0 <= s.1 /\ s.1.toNat <= es.length /\ s.2 = bD es [.v (.int .i64 0), .v (.int .i64 0), .v (.int .i64 0)] s.1.toNat, fun s => es.length - s.1.toNat, ⟨(0, O.rep (O.zi (O.ln es)) [.v (.int .i64 0), .v (.int .i64 0), .v (.int .i64 0)]), ?_, ?_⟩, ?_⟩
 ·subst hO;exact gK (b := 24) (show es.length * _ <= _ by omega) (show es.length <= _ by omega)
 ·subst hO;exact ⟨rfl, rfl⟩
 ·exact ⟨by omega, Nat.zero_le _, h0z.symm⟩
 ·cbv
 ·rintro ⟨i, m⟩ hi;replace hi : 0 <= i /\ i.toNat <= es.length /\ m = bD es [.v (.int .i64 0), .v (.int .i64 0), .v (.int .i64 0)] i.toNat := hi;obtain ⟨g0, g1, hm⟩ := hi;cbv
  repeat' first | refine And.intro ?_ ?_ | (refine aK (fun hb => ?_) (fun hb => ?_) <;> cbv) | (refine aa (O.ar .add .i64 i 1, O.up (.s 3 m) [(O.ad 0 i, 0)] [.v (.int .i64 (O.gi es i 0)), .v (.int .i64 (O.gi es i 1)), .v (.int .i64 (O.gi es i 2))]) ?_ ?_ ?_; rotate_left 2; focus (cbv; done))
  all_goals (subst hO hr hF; (try simp only [ah, SS, sa, az] at *); (try simp only [nc] at *); (try simp only [aF] at *))
  all_goals (try simp only [LStaleS.F0, lx, List.length_replicate, Int.toNat_natCast] at *)
  all_goals try have hlt : i < es.length := by assumption
  all_goals try rw [cJ (n := es.length) g0 hlt (by omega)]
  all_goals try have he : es.getD i.toNat [] = [.v (.int .i64 (ab es i 0)), .v (.int .i64 (ab es i 1)), .v (.int .i64 (ab es i 2))] := (aH hwf g0 hlt).symm
  all_goals try have hct := bF (es := es) (n := i.toNat) (by omega); rw [he] at hct; simp only [cN, dA, Nat.add_zero, Nat.zero_add] at hct
  all_goals have hle1 := av (es := es) (n := i.toNat + 1)
  all_goals have hcE : ao es = es.length + aS es := rfl
  all_goals first | exact bR hwf g0 hlt | exact ⟨g0, hlt⟩ | (rw [hm]; exact cv (by rw [aE g1]; omega) (by rw [aT (by omega)]; exact Nat.le_refl _)) | omega | (rw [show (i + 1).toNat = i.toNat + 1 from by omega, <- cu (by omega), <- hm, dr (by rw [hm, aT (by omega)]; rfl), he]) | (rw [hm, aE g1]; exact ⟨trivial, rfl⟩) | (rw [hm, show i.toNat = es.length from by omega, cr]) | trivial | exact ⟨trivial, trivial⟩ | (refine ⟨?_⟩; simp only [ag, ao, Nat.add_zero]; omega) | trace_state
theorem mN (es : List (List L)) (d : DV) (hp : d = .one (.s 3 es) /\ Rw [tI, tI, tI] es /\ ao es <= 1099511627776) : aO Tryz.prog 164 [.one (.s 3 es), d] [.one (.v (.bool true))] := by
 obtain ⟨rfl, hw, hlim⟩ := hp;have hwf : Wf [.v (.int .i64 0), .v (.int .i64 0), .v (.int .i64 0)] es := hw.wf;have hlen : es.length <= 1099511627776 := Nat.le_trans (Nat.le_add_right _ _) hlim;refine aj LStaleS.B ai mixed 27 _ [4] [.tmp 4] Tryz.func164 rfl rfl rfl rfl rfl ?_;intro O r (F : LStaleS.Fns) hO hr (hF : F = LStaleS.F0);cbv;refine aK (fun hb => ?_) (fun hb => ?_) <;> cbv
 ·(subst hO hr hF; (try simp only [ah, SS, sa, az] at *); (try simp only [nc] at *); (try simp only [aF] at *)); exact absurd rfl hb
 ·clear hb;refine ⟨[0, 1, 5], [], Int, fun i => [.reg 5 (.one (.v (.int .i64 i)))], fun i => 0 <= i /\ i.toNat <= es.length, fun i => es.length - i.toNat, ⟨0, ?_, ?_⟩, ?_⟩
  ·exact ⟨by omega, Nat.zero_le _⟩
  ·cbv
  ·rintro i hi;replace hi : 0 <= i /\ i.toNat <= es.length := hi;obtain ⟨g0, g1⟩ := hi;cbv
   repeat' first | refine And.intro ?_ ?_ | (refine aK (fun hb => ?_) (fun hb => ?_) <;> cbv) | (refine aa (O.ar .add .i64 i 1) ?_ ?_ ?_; rotate_left 2; focus (cbv; done))
   all_goals (subst hO hr hF; (try simp only [ah, SS, sa, az] at *); (try simp only [nc] at *); (try simp only [aF] at *))
   all_goals (try simp only [LStaleS.F0] at *)
   all_goals try have hlt : i < es.length := by assumption
   all_goals try rw [cJ (n := es.length) g0 hlt (by omega)]
   all_goals try have he : es.getD i.toNat [] = [.v (.int .i64 (ab es i 0)), .v (.int .i64 (ab es i 1)), .v (.int .i64 (ab es i 2))] := (aH hwf g0 hlt).symm
   all_goals try have hct := bF (es := es) (n := i.toNat) (by omega); rw [he] at hct; simp only [cN, dA, Nat.add_zero, Nat.zero_add] at hct
   all_goals have hle1 := av (es := es) (n := i.toNat + 1)
   all_goals have hcE : ao es = es.length + aS es := rfl
   all_goals first | omega | exact bR hwf g0 hlt | exact absurd rfl hb | exact absurd rfl (by assumption) | trivial | kernel_rfl | exact ⟨trivial, trivial⟩ | (refine ⟨trivial, ?_⟩; simp only [ag, ao, Nat.add_zero]; omega) | trace_state
namespace LPost
structure Fns where
 no : Unit
def F0 : Fns := ⟨()⟩
def B : TB Tryz.prog := {Φ := Fns, F0 := F0}
end LPost
theorem qS (a0 a1 : Int) (hp : True) : aO Tryz.prog 249 [.agg [.v (.int .i64 a0), .v (.int .i64 a1)]] [.agg [.v (.int .i64 a0), .v (.int .i64 a1)]] := by
 refine aj LPost.B ai mixed 11 _ [240] [.cell 2 240] Tryz.func249 rfl rfl rfl rfl rfl ?_;intro O r (F : LPost.Fns) hO hr (hF : F = LPost.F0);cbv
 repeat' first | refine And.intro ?_ ?_ | (refine aK (fun hb => ?_) (fun hb => ?_) <;> cbv)
 all_goals (subst hO hr hF; (try simp only [ah, SS, sa, az] at *); (try simp only [nc] at *); (try simp only [aF] at *))
 all_goals (try simp only [LPost.F0] at *)
 all_goals first | trivial | exact rfl | exact ⟨trivial, trivial⟩ | exact ⟨rfl, rfl⟩ | (refine ⟨by assumption, ?_⟩; (try simp only [ag, Nat.add_zero]); omega) | ((try simp only [ag, Nat.add_zero]); omega) | trace_state
theorem qI (a0 a1 : Int) (d : DV) (hp : d = .agg [.v (.int .i64 a0), .v (.int .i64 a1)]) : aO Tryz.prog 261 [.agg [.v (.int .i64 a0), .v (.int .i64 a1)], d] [.one (.v (.bool true))] := by
 subst hp;refine aj LPost.B ai mixed 15 _ [4] [.tmp 4] Tryz.func261 rfl rfl rfl rfl rfl ?_;intro O r (F : LPost.Fns) hO hr (hF : F = LPost.F0);cbv
 repeat' first | refine And.intro ?_ ?_ | (refine aK (fun hb => ?_) (fun hb => ?_) <;> cbv)
 all_goals (subst hO hr hF; (try simp only [ah, SS, sa, az] at *); (try simp only [nc] at *); (try simp only [aF] at *))
 all_goals (try simp only [LPost.F0] at *)
 all_goals first | trivial | exact rfl | exact absurd rfl hb | exact absurd rfl (by assumption) | (refine ⟨trivial, by assumption, ?_⟩; (try simp only [ag, Nat.add_zero]); omega) | (refine ⟨trivial, ?_⟩; (try simp only [ag, Nat.add_zero]); omega) | trace_state
namespace LPostS
structure Fns where
 no : Unit
def F0 : Fns := ⟨()⟩
def ct (F : Fns) : CT := fun f ds => match f, ds with
 | 249, [.agg [.v (.int .i64 a0), .v (.int .i64 a1)]] => some (fun _ => True, [.agg [.v (.int .i64 a0), .v (.int .i64 a1)]])
 | 261, [.agg [.v (.int .i64 a0), .v (.int .i64 a1)], d] => some (fun _ => d = .agg [.v (.int .i64 a0), .v (.int .i64 a1)], [.one (.v (.bool true))])
 | _, _ => none
theorem am : aV Tryz.prog (ct F0) := by
 intro f ds pre res h hp;unfold ct at h;split at h <;> (try split at h) <;> cases h
 exact qS _ _ hp;exact qI _ _ _ hp
def B : TB Tryz.prog := tb am
end LPostS
theorem oN (es : List (List L)) (left : Int) (hp : Rw [tI, tI] es /\ 0 <= left /\ left <= 1048576) : aO Tryz.prog 198 [.one (.s 2 es), .one (.v (.int .i64 left))] [.one (.v (.int .i64 (aY [es] left)))] := by
 obtain ⟨hw, h0, h1⟩ := hp;have hc : ao es = es.length := hw.cnt rfl;have hm := hw.1; unfold maxLen at hm;have hs : bu .sub .i64 left es.length = left - es.length := ce (by omega);have hn : aY [es] left = if left < es.length then -1 else left - es.length := by unfold aY; rw [cp, hc]
 refine aj LPostS.B ai mixed 12 _ [3] [.tmp 4] Tryz.func198 rfl rfl rfl rfl rfl ?_;intro O r (F : LPostS.Fns) hO hr (hF : F = LPostS.F0);cbv
 repeat' first | refine And.intro ?_ ?_ | (refine aK (fun hb => ?_) (fun hb => ?_) <;> cbv)
 all_goals (subst hO hr hF; (try simp only [ah, SS, sa, az] at *); (try simp only [nc] at *); (try simp only [aF] at *))
 all_goals (try simp only [hs, LPostS.F0] at *)
 all_goals first | trivial | (rw [hn, if_pos (by omega)]) | (rw [hn, if_neg (by omega)])
theorem oU (es : List (List L)) (hp : Rw [tI, tI] es /\ ao es <= 1048576) : aO Tryz.prog 212 [.one (.s 2 es)] [.one (.s 2 es)] := by
 obtain ⟨hw, hlim⟩ := hp;have hwf : Wf [.v (.int .i64 0), .v (.int .i64 0)] es := hw.wf;have hlen : es.length <= 1048576 := Nat.le_trans (Nat.le_add_right _ _) hlim;refine aj LPostS.B ai mixed 23 _ [238] [.tmp 2] Tryz.func212 rfl rfl rfl rfl rfl ?_;intro O r (F : LPostS.Fns) hO hr (hF : F = LPostS.F0);cbv;have h0z : bD es [.v (.int .i64 0), .v (.int .i64 0)] 0 = O.rep (O.zi (O.ln es)) [.v (.int .i64 0), .v (.int .i64 0)] := by
  subst hO;rw [bV]; rfl
 refine ⟨?_, ?_, [0, 3, 4], [3], Int × List (List L), fun s => [.reg 4 (.one (.v (.int .i64 s.1))), .leaf 3 0 ⟨0, 0, none, .own (.s 2 s.2)⟩], fun s => 0 <= s.1 /\ s.1.toNat <= es.length /\ s.2 = bD es [.v (.int .i64 0), .v (.int .i64 0)] s.1.toNat, fun s => es.length - s.1.toNat, ⟨(0, O.rep (O.zi (O.ln es)) [.v (.int .i64 0), .v (.int .i64 0)]), ?_, ?_⟩, ?_⟩
 ·subst hO;exact gK (b := 16) (show es.length * _ <= _ by omega) (show es.length <= _ by omega)
 ·subst hO;exact ⟨rfl, rfl⟩
 ·exact ⟨by omega, Nat.zero_le _, h0z.symm⟩
 ·cbv
 ·rintro ⟨i, m⟩ hi;replace hi : 0 <= i /\ i.toNat <= es.length /\ m = bD es [.v (.int .i64 0), .v (.int .i64 0)] i.toNat := hi;obtain ⟨g0, g1, hm⟩ := hi;cbv
  repeat' first | refine And.intro ?_ ?_ | (refine aK (fun hb => ?_) (fun hb => ?_) <;> cbv) | (refine aa (O.ar .add .i64 i 1, O.up (.s 2 m) [(O.ad 0 i, 0)] [.v (.int .i64 (O.gi es i 0)), .v (.int .i64 (O.gi es i 1))]) ?_ ?_ ?_; rotate_left 2; focus (cbv; done))
  all_goals (subst hO hr hF; (try simp only [ah, SS, sa, az] at *); (try simp only [nc] at *); (try simp only [aF] at *))
  all_goals (try simp only [LPostS.F0, lx, List.length_replicate, Int.toNat_natCast] at *)
  all_goals try have hlt : i < es.length := by assumption
  all_goals try rw [cJ (n := es.length) g0 hlt (by omega)]
  all_goals try have he : es.getD i.toNat [] = [.v (.int .i64 (ab es i 0)), .v (.int .i64 (ab es i 1))] := (aH hwf g0 hlt).symm
  all_goals try have hct := bF (es := es) (n := i.toNat) (by omega); rw [he] at hct; simp only [cN, dA, Nat.add_zero, Nat.zero_add] at hct
  all_goals have hle1 := av (es := es) (n := i.toNat + 1)
  all_goals have hcE : ao es = es.length + aS es := rfl
  all_goals first | exact bR hwf g0 hlt | exact ⟨g0, hlt⟩ | (rw [hm]; exact cv (by rw [aE g1]; omega) (by rw [aT (by omega)]; exact Nat.le_refl _)) | omega | (rw [show (i + 1).toNat = i.toNat + 1 from by omega, <- cu (by omega), <- hm, dr (by rw [hm, aT (by omega)]; rfl), he]) | (rw [hm, aE g1]; exact ⟨trivial, rfl⟩) | (rw [hm, show i.toNat = es.length from by omega, cr]) | trivial | exact ⟨trivial, trivial⟩ | (refine ⟨?_⟩; simp only [ag, ao, Nat.add_zero]; omega) | trace_state
theorem oG (es : List (List L)) (d : DV) (hp : d = .one (.s 2 es) /\ Rw [tI, tI] es /\ ao es <= 1099511627776) : aO Tryz.prog 231 [.one (.s 2 es), d] [.one (.v (.bool true))] := by
 obtain ⟨rfl, hw, hlim⟩ := hp;have hwf : Wf [.v (.int .i64 0), .v (.int .i64 0)] es := hw.wf;have hlen : es.length <= 1099511627776 := Nat.le_trans (Nat.le_add_right _ _) hlim;refine aj LPostS.B ai mixed 27 _ [4] [.tmp 4] Tryz.func231 rfl rfl rfl rfl rfl ?_;intro O r (F : LPostS.Fns) hO hr (hF : F = LPostS.F0);cbv;refine aK (fun hb => ?_) (fun hb => ?_) <;> cbv
 ·(subst hO hr hF; (try simp only [ah, SS, sa, az] at *); (try simp only [nc] at *); (try simp only [aF] at *)); exact absurd rfl hb
 ·clear hb;refine ⟨[0, 1, 5], [], Int, fun i => [.reg 5 (.one (.v (.int .i64 i)))], fun i => 0 <= i /\ i.toNat <= es.length, fun i => es.length - i.toNat, ⟨0, ?_, ?_⟩, ?_⟩
  ·exact ⟨by omega, Nat.zero_le _⟩
  ·cbv
  ·rintro i hi;replace hi : 0 <= i /\ i.toNat <= es.length := hi;obtain ⟨g0, g1⟩ := hi;cbv
   repeat' first | refine And.intro ?_ ?_ | (refine aK (fun hb => ?_) (fun hb => ?_) <;> cbv) | (refine aa (O.ar .add .i64 i 1) ?_ ?_ ?_; rotate_left 2; focus (cbv; done))
   all_goals (subst hO hr hF; (try simp only [ah, SS, sa, az] at *); (try simp only [nc] at *); (try simp only [aF] at *))
   all_goals (try simp only [LPostS.F0] at *)
   all_goals try have hlt : i < es.length := by assumption
   all_goals try rw [cJ (n := es.length) g0 hlt (by omega)]
   all_goals try have he : es.getD i.toNat [] = [.v (.int .i64 (ab es i 0)), .v (.int .i64 (ab es i 1))] := (aH hwf g0 hlt).symm
   all_goals try have hct := bF (es := es) (n := i.toNat) (by omega); rw [he] at hct; simp only [cN, dA, Nat.add_zero, Nat.zero_add] at hct
   all_goals have hle1 := av (es := es) (n := i.toNat + 1)
   all_goals have hcE : ao es = es.length + aS es := rfl
   all_goals first | omega | exact bR hwf g0 hlt | exact absurd rfl hb | exact absurd rfl (by assumption) | trivial | kernel_rfl | exact ⟨trivial, trivial⟩ | (refine ⟨trivial, ?_⟩; simp only [ag, ao, Nat.add_zero]; omega) | trace_state
end Go.V