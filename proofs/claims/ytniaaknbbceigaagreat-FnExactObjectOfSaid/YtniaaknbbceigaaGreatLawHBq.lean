/-
  Contracts, by evaluation.
-/
import Derived.Test.YtniaaknbbceigaaGreatS10
import Derived.Test.YtniaaknbbceigaaGreatLawHEq
import Derived.Test.YtniaaknbbceigaaGreatVE
set_option linter.all false
namespace Go.V
open Go Go.Proofs
set_option maxRecDepth 1000000
set_option maxHeartbeats 8000000
namespace LRange
structure Fns where
 no : Unit
def F0 : Fns := ⟨()⟩
def B : TB Tryz.prog := {Φ := Fns, F0 := F0}
end LRange
theorem oV (a0 a1 : Int) (hp : True) : aO Tryz.prog 133 [.agg [.v (.int .i64 a0), .v (.int .i64 a1)]] [.agg [.v (.int .i64 a0), .v (.int .i64 a1)]] := by
 refine aj LRange.B ai mixed 11 _ [195] [.cell 2 195] Tryz.func133 rfl rfl rfl rfl rfl ?_;intro O r (F : LRange.Fns) hO hr (hF : F = LRange.F0);cbv
 repeat' first | refine And.intro ?_ ?_ | (refine aK (fun hb => ?_) (fun hb => ?_) <;> cbv)
 all_goals (subst hO hr hF; (try simp only [ah, SS, sa, az] at *); (try simp only [nc] at *); (try simp only [aF] at *))
 all_goals (try simp only [LRange.F0] at *)
 all_goals first | trivial | exact rfl | exact ⟨trivial, trivial⟩ | exact ⟨rfl, rfl⟩ | (refine ⟨by assumption, ?_⟩; (try simp only [ag, Nat.add_zero]); omega) | ((try simp only [ag, Nat.add_zero]); omega) | trace_state
theorem oH (a0 a1 : Int) (d : DV) (hp : d = .agg [.v (.int .i64 a0), .v (.int .i64 a1)]) : aO Tryz.prog 157 [.agg [.v (.int .i64 a0), .v (.int .i64 a1)], d] [.one (.v (.bool true))] := by
 subst hp;refine aj LRange.B ai mixed 15 _ [4] [.tmp 4] Tryz.func157 rfl rfl rfl rfl rfl ?_;intro O r (F : LRange.Fns) hO hr (hF : F = LRange.F0);cbv
 repeat' first | refine And.intro ?_ ?_ | (refine aK (fun hb => ?_) (fun hb => ?_) <;> cbv)
 all_goals (subst hO hr hF; (try simp only [ah, SS, sa, az] at *); (try simp only [nc] at *); (try simp only [aF] at *))
 all_goals (try simp only [LRange.F0] at *)
 all_goals first | trivial | exact rfl | exact absurd rfl hb | exact absurd rfl (by assumption) | (refine ⟨trivial, by assumption, ?_⟩; (try simp only [ag, Nat.add_zero]); omega) | (refine ⟨trivial, ?_⟩; (try simp only [ag, Nat.add_zero]); omega) | trace_state
namespace LRangeS
structure Fns where
 no : Unit
def F0 : Fns := ⟨()⟩
def ct (F : Fns) : CT := fun f ds => match f, ds with
 | 133, [.agg [.v (.int .i64 a0), .v (.int .i64 a1)]] => some (fun _ => True, [.agg [.v (.int .i64 a0), .v (.int .i64 a1)]])
 | 157, [.agg [.v (.int .i64 a0), .v (.int .i64 a1)], d] => some (fun _ => d = .agg [.v (.int .i64 a0), .v (.int .i64 a1)], [.one (.v (.bool true))])
 | _, _ => none
theorem am : aV Tryz.prog (ct F0) := by
 intro f ds pre res h hp;unfold ct at h;split at h <;> (try split at h) <;> cases h
 exact oV _ _ hp;exact oH _ _ _ hp
def B : TB Tryz.prog := tb am
end LRangeS
theorem mU (es : List (List L)) (left : Int) (hp : Rw [tI, tI] es /\ 0 <= left /\ left <= 1048576) : aO Tryz.prog 36 [.one (.s 2 es), .one (.v (.int .i64 left))] [.one (.v (.int .i64 (aY [es] left)))] := by
 obtain ⟨hw, h0, h1⟩ := hp;have hc : ao es = es.length := hw.cnt rfl;have hm := hw.1; unfold maxLen at hm;have hs : bu .sub .i64 left es.length = left - es.length := ce (by omega);have hn : aY [es] left = if left < es.length then -1 else left - es.length := by unfold aY; rw [cp, hc]
 refine aj LRangeS.B ai mixed 12 _ [3] [.tmp 4] Tryz.func36 rfl rfl rfl rfl rfl ?_;intro O r (F : LRangeS.Fns) hO hr (hF : F = LRangeS.F0);cbv
 repeat' first | refine And.intro ?_ ?_ | (refine aK (fun hb => ?_) (fun hb => ?_) <;> cbv)
 all_goals (subst hO hr hF; (try simp only [ah, SS, sa, az] at *); (try simp only [nc] at *); (try simp only [aF] at *))
 all_goals (try simp only [hs, LRangeS.F0] at *)
 all_goals first | trivial | (rw [hn, if_pos (by omega)]) | (rw [hn, if_neg (by omega)])
theorem na (es : List (List L)) (hp : Rw [tI, tI] es /\ ao es <= 1048576) : aO Tryz.prog 47 [.one (.s 2 es)] [.one (.s 2 es)] := by
 obtain ⟨hw, hlim⟩ := hp;have hwf : Wf [.v (.int .i64 0), .v (.int .i64 0)] es := hw.wf;have hlen : es.length <= 1048576 := Nat.le_trans (Nat.le_add_right _ _) hlim;refine aj LRangeS.B ai mixed 23 _ [61] [.tmp 2] Tryz.func47 rfl rfl rfl rfl rfl ?_;intro O r (F : LRangeS.Fns) hO hr (hF : F = LRangeS.F0);cbv;have h0z : bD es [.v (.int .i64 0), .v (.int .i64 0)] 0 = O.rep (O.zi (O.ln es)) [.v (.int .i64 0), .v (.int .i64 0)] := by
  subst hO;rw [bV]; rfl
 refine ⟨?_, ?_, [0, 3, 4], [3], Int × List (List L), fun s => [.reg 4 (.one (.v (.int .i64 s.1))), .leaf 3 0 ⟨0, 0, none, .own (.s 2 s.2)⟩], fun s => 0 <= s.1 /\ s.1.toNat <= es.length /\ s.2 = bD es [.v (.int .i64 0), .v (.int .i64 0)] s.1.toNat, fun s => es.length - s.1.toNat, ⟨(0, O.rep (O.zi (O.ln es)) [.v (.int .i64 0), .v (.int .i64 0)]), ?_, ?_⟩, ?_⟩
 ·subst hO;exact gK (b := 16) (show es.length * _ <= _ by omega) (show es.length <= _ by omega)
 ·subst hO;exact ⟨rfl, rfl⟩
 ·exact ⟨by omega, Nat.zero_le _, h0z.symm⟩
 ·cbv
 ·rintro ⟨i, m⟩ hi;replace hi : 0 <= i /\ i.toNat <= es.length /\ m = bD es [.v (.int .i64 0), .v (.int .i64 0)] i.toNat := hi;obtain ⟨g0, g1, hm⟩ := hi;cbv
  repeat' first | refine And.intro ?_ ?_ | (refine aK (fun hb => ?_) (fun hb => ?_) <;> cbv) | (refine aa (O.ar .add .i64 i 1, O.up (.s 2 m) [(O.ad 0 i, 0)] [.v (.int .i64 (O.gi es i 0)), .v (.int .i64 (O.gi es i 1))]) ?_ ?_ ?_; rotate_left 2; focus (cbv; done))
  all_goals (subst hO hr hF; (try simp only [ah, SS, sa, az] at *); (try simp only [nc] at *); (try simp only [aF] at *))
  all_goals (try simp only [LRangeS.F0, lx, List.length_replicate, Int.toNat_natCast] at *)
  all_goals try have hlt : i < es.length := by assumption
  all_goals try rw [cJ (n := es.length) g0 hlt (by omega)]
  all_goals try have he : es.getD i.toNat [] = [.v (.int .i64 (ab es i 0)), .v (.int .i64 (ab es i 1))] := (aH hwf g0 hlt).symm
  all_goals try have hct := bF (es := es) (n := i.toNat) (by omega); rw [he] at hct; simp only [cN, dA, Nat.add_zero, Nat.zero_add] at hct
  all_goals have hle1 := av (es := es) (n := i.toNat + 1)
  all_goals have hcE : ao es = es.length + aS es := rfl
  all_goals first | exact bR hwf g0 hlt | exact ⟨g0, hlt⟩ | (rw [hm]; exact cv (by rw [aE g1]; omega) (by rw [aT (by omega)]; exact Nat.le_refl _)) | omega | (rw [show (i + 1).toNat = i.toNat + 1 from by omega, <- cu (by omega), <- hm, dr (by rw [hm, aT (by omega)]; rfl), he]) | (rw [hm, aE g1]; exact ⟨trivial, rfl⟩) | (rw [hm, show i.toNat = es.length from by omega, cr]) | trivial | exact ⟨trivial, trivial⟩ | (refine ⟨?_⟩; simp only [ag, ao, Nat.add_zero]; omega) | trace_state
theorem mM (es : List (List L)) (d : DV) (hp : d = .one (.s 2 es) /\ Rw [tI, tI] es /\ ao es <= 1099511627776) : aO Tryz.prog 58 [.one (.s 2 es), d] [.one (.v (.bool true))] := by
 obtain ⟨rfl, hw, hlim⟩ := hp;have hwf : Wf [.v (.int .i64 0), .v (.int .i64 0)] es := hw.wf;have hlen : es.length <= 1099511627776 := Nat.le_trans (Nat.le_add_right _ _) hlim;refine aj LRangeS.B ai mixed 27 _ [4] [.tmp 4] Tryz.func58 rfl rfl rfl rfl rfl ?_;intro O r (F : LRangeS.Fns) hO hr (hF : F = LRangeS.F0);cbv;refine aK (fun hb => ?_) (fun hb => ?_) <;> cbv
 ·(subst hO hr hF; (try simp only [ah, SS, sa, az] at *); (try simp only [nc] at *); (try simp only [aF] at *)); exact absurd rfl hb
 ·clear hb;refine ⟨[0, 1, 5], [], Int, fun i => [.reg 5 (.one (.v (.int .i64 i)))], fun i => 0 <= i /\ i.toNat <= es.length, fun i => es.length - i.toNat, ⟨0, ?_, ?_⟩, ?_⟩
  ·exact ⟨by omega, Nat.zero_le _⟩
  ·cbv
  ·rintro i hi;replace hi : 0 <= i /\ i.toNat <= es.length := hi;obtain ⟨g0, g1⟩ := hi;cbv
   repeat' first | refine And.intro ?_ ?_ | (refine aK (fun hb => ?_) (fun hb => ?_) <;> cbv) | (refine aa (O.ar .add .i64 i 1) ?_ ?_ ?_; rotate_left 2; focus (cbv; done))
   all_goals (subst hO hr hF; (try simp only [ah, SS, sa, az] at *); (try simp only [nc] at *); (try simp only [aF] at *))
   all_goals (try simp only [LRangeS.F0] at *)
   all_goals try have hlt : i < es.length := by assumption
   all_goals try rw [cJ (n := es.length) g0 hlt (by omega)]
   all_goals try have he : es.getD i.toNat [] = [.v (.int .i64 (ab es i 0)), .v (.int .i64 (ab es i 1))] := (aH hwf g0 hlt).symm
   all_goals try have hct := bF (es := es) (n := i.toNat) (by omega); rw [he] at hct; simp only [cN, dA, Nat.add_zero, Nat.zero_add] at hct
   all_goals have hle1 := av (es := es) (n := i.toNat + 1)
   all_goals have hcE : ao es = es.length + aS es := rfl
   all_goals first | omega | exact bR hwf g0 hlt | exact absurd rfl hb | exact absurd rfl (by assumption) | trivial | kernel_rfl | exact ⟨trivial, trivial⟩ | (refine ⟨trivial, ?_⟩; simp only [ag, ao, Nat.add_zero]; omega) | trace_state
namespace LSpan
structure Fns where
 no : Unit
def F0 : Fns := ⟨()⟩
def B : TB Tryz.prog := {Φ := Fns, F0 := F0}
end LSpan
theorem qU (a0 a1 a2 : Int) (hp : True) : aO Tryz.prog 134 [.agg [.v (.int .i64 a0), .v (.int .i64 a1), .v (.int .i64 a2)]] [.agg [.v (.int .i64 a0), .v (.int .i64 a1), .v (.int .i64 a2)]] := by
 refine aj LSpan.B ai mixed 14 _ [141] [.cell 2 141] Tryz.func134 rfl rfl rfl rfl rfl ?_;intro O r (F : LSpan.Fns) hO hr (hF : F = LSpan.F0);cbv
 repeat' first | refine And.intro ?_ ?_ | (refine aK (fun hb => ?_) (fun hb => ?_) <;> cbv)
 all_goals (subst hO hr hF; (try simp only [ah, SS, sa, az] at *); (try simp only [nc] at *); (try simp only [aF] at *))
 all_goals (try simp only [LSpan.F0] at *)
 all_goals first | trivial | exact rfl | exact ⟨trivial, trivial⟩ | exact ⟨rfl, rfl⟩ | (refine ⟨by assumption, ?_⟩; (try simp only [ag, Nat.add_zero]); omega) | ((try simp only [ag, Nat.add_zero]); omega) | trace_state
theorem qK (a0 a1 a2 : Int) (d : DV) (hp : d = .agg [.v (.int .i64 a0), .v (.int .i64 a1), .v (.int .i64 a2)]) : aO Tryz.prog 158 [.agg [.v (.int .i64 a0), .v (.int .i64 a1), .v (.int .i64 a2)], d] [.one (.v (.bool true))] := by
 subst hp;refine aj LSpan.B ai mixed 20 _ [4] [.tmp 4] Tryz.func158 rfl rfl rfl rfl rfl ?_;intro O r (F : LSpan.Fns) hO hr (hF : F = LSpan.F0);cbv
 repeat' first | refine And.intro ?_ ?_ | (refine aK (fun hb => ?_) (fun hb => ?_) <;> cbv)
 all_goals (subst hO hr hF; (try simp only [ah, SS, sa, az] at *); (try simp only [nc] at *); (try simp only [aF] at *))
 all_goals (try simp only [LSpan.F0] at *)
 all_goals first | trivial | exact rfl | exact absurd rfl hb | exact absurd rfl (by assumption) | (refine ⟨trivial, by assumption, ?_⟩; (try simp only [ag, Nat.add_zero]); omega) | (refine ⟨trivial, ?_⟩; (try simp only [ag, Nat.add_zero]); omega) | trace_state
namespace LSpanS
structure Fns where
 no : Unit
def F0 : Fns := ⟨()⟩
def ct (F : Fns) : CT := fun f ds => match f, ds with
 | 134, [.agg [.v (.int .i64 a0), .v (.int .i64 a1), .v (.int .i64 a2)]] => some (fun _ => True, [.agg [.v (.int .i64 a0), .v (.int .i64 a1), .v (.int .i64 a2)]])
 | 158, [.agg [.v (.int .i64 a0), .v (.int .i64 a1), .v (.int .i64 a2)], d] => some (fun _ => d = .agg [.v (.int .i64 a0), .v (.int .i64 a1), .v (.int .i64 a2)], [.one (.v (.bool true))])
 | _, _ => none
theorem am : aV Tryz.prog (ct F0) := by
 intro f ds pre res h hp;unfold ct at h;split at h <;> (try split at h) <;> cases h
 exact qU _ _ _ hp;exact qK _ _ _ _ hp
def B : TB Tryz.prog := tb am
end LSpanS
theorem oO (es : List (List L)) (left : Int) (hp : Rw [tI, tI, tI] es /\ 0 <= left /\ left <= 1048576) : aO Tryz.prog 37 [.one (.s 3 es), .one (.v (.int .i64 left))] [.one (.v (.int .i64 (aY [es] left)))] := by
 obtain ⟨hw, h0, h1⟩ := hp;have hc : ao es = es.length := hw.cnt rfl;have hm := hw.1; unfold maxLen at hm;have hs : bu .sub .i64 left es.length = left - es.length := ce (by omega);have hn : aY [es] left = if left < es.length then -1 else left - es.length := by unfold aY; rw [cp, hc]
 refine aj LSpanS.B ai mixed 12 _ [3] [.tmp 4] Tryz.func37 rfl rfl rfl rfl rfl ?_;intro O r (F : LSpanS.Fns) hO hr (hF : F = LSpanS.F0);cbv
 repeat' first | refine And.intro ?_ ?_ | (refine aK (fun hb => ?_) (fun hb => ?_) <;> cbv)
 all_goals (subst hO hr hF; (try simp only [ah, SS, sa, az] at *); (try simp only [nc] at *); (try simp only [aF] at *))
 all_goals (try simp only [hs, LSpanS.F0] at *)
 all_goals first | trivial | (rw [hn, if_pos (by omega)]) | (rw [hn, if_neg (by omega)])
theorem oW (es : List (List L)) (hp : Rw [tI, tI, tI] es /\ ao es <= 1048576) : aO Tryz.prog 48 [.one (.s 3 es)] [.one (.s 3 es)] := by
 obtain ⟨hw, hlim⟩ := hp;have hwf : Wf [.v (.int .i64 0), .v (.int .i64 0), .v (.int .i64 0)] es := hw.wf;have hlen : es.length <= 1048576 := Nat.le_trans (Nat.le_add_right _ _) hlim;refine aj LSpanS.B ai mixed 23 _ [62] [.tmp 2] Tryz.func48 rfl rfl rfl rfl rfl ?_;intro O r (F : LSpanS.Fns) hO hr (hF : F = LSpanS.F0);cbv;have h0z : bD es [.v (.int .i64 0), .v (.int .i64 0), .v (.int .i64 0)] 0 = O.rep (O.zi (O.ln es)) [.v (.int .i64 0), .v (.int .i64 0), .v (.int .i64 0)] := by
  subst hO;rw [bV]; rfl
 refine ⟨?_, ?_, [0, 3, 4], [3], Int × List (List L), fun s => [.reg 4 (.one (.v (.int .i64 s.1))), .leaf 3 0 ⟨0, 0, none, .own (.s 3 s.2)⟩], fun s => 0 <= s.1 /\ s.1.toNat <= es.length /\ s.2 = bD es [.v (.int .i64 0), .v (.int .i64 0), .v (.int .i64 0)] s.1.toNat, fun s => es.length - s.1.toNat, ⟨(0, O.rep (O.zi (O.ln es)) [.v (.int .i64 0), .v (.int .i64 0), .v (.int .i64 0)]), ?_, ?_⟩, ?_⟩
 ·subst hO;exact gK (b := 24) (show es.length * _ <= _ by omega) (show es.length <= _ by omega)
 ·subst hO;exact ⟨rfl, rfl⟩
 ·exact ⟨by omega, Nat.zero_le _, h0z.symm⟩
 ·cbv
 ·rintro ⟨i, m⟩ hi;replace hi : 0 <= i /\ i.toNat <= es.length /\ m = bD es [.v (.int .i64 0), .v (.int .i64 0), .v (.int .i64 0)] i.toNat := hi;obtain ⟨g0, g1, hm⟩ := hi;cbv
  repeat' first | refine And.intro ?_ ?_ | (refine aK (fun hb => ?_) (fun hb => ?_) <;> cbv) | (refine aa (O.ar .add .i64 i 1, O.up (.s 3 m) [(O.ad 0 i, 0)] [.v (.int .i64 (O.gi es i 0)), .v (.int .i64 (O.gi es i 1)), .v (.int .i64 (O.gi es i 2))]) ?_ ?_ ?_; rotate_left 2; focus (cbv; done))
  all_goals (subst hO hr hF; (try simp only [ah, SS, sa, az] at *); (try simp only [nc] at *); (try simp only [aF] at *))
  all_goals (try simp only [LSpanS.F0, lx, List.length_replicate, Int.toNat_natCast] at *)
  all_goals try have hlt : i < es.length := by assumption
  all_goals try rw [cJ (n := es.length) g0 hlt (by omega)]
  all_goals try have he : es.getD i.toNat [] = [.v (.int .i64 (ab es i 0)), .v (.int .i64 (ab es i 1)), .v (.int .i64 (ab es i 2))] := (aH hwf g0 hlt).symm
  all_goals try have hct := bF (es := es) (n := i.toNat) (by omega); rw [he] at hct; simp only [cN, dA, Nat.add_zero, Nat.zero_add] at hct
  all_goals have hle1 := av (es := es) (n := i.toNat + 1)
  all_goals have hcE : ao es = es.length + aS es := rfl
  all_goals first | exact bR hwf g0 hlt | exact ⟨g0, hlt⟩ | (rw [hm]; exact cv (by rw [aE g1]; omega) (by rw [aT (by omega)]; exact Nat.le_refl _)) | omega | (rw [show (i + 1).toNat = i.toNat + 1 from by omega, <- cu (by omega), <- hm, dr (by rw [hm, aT (by omega)]; rfl), he]) | (rw [hm, aE g1]; exact ⟨trivial, rfl⟩) | (rw [hm, show i.toNat = es.length from by omega, cr]) | trivial | exact ⟨trivial, trivial⟩ | (refine ⟨?_⟩; simp only [ag, ao, Nat.add_zero]; omega) | trace_state
theorem oI (es : List (List L)) (d : DV) (hp : d = .one (.s 3 es) /\ Rw [tI, tI, tI] es /\ ao es <= 1099511627776) : aO Tryz.prog 59 [.one (.s 3 es), d] [.one (.v (.bool true))] := by
 obtain ⟨rfl, hw, hlim⟩ := hp;have hwf : Wf [.v (.int .i64 0), .v (.int .i64 0), .v (.int .i64 0)] es := hw.wf;have hlen : es.length <= 1099511627776 := Nat.le_trans (Nat.le_add_right _ _) hlim;refine aj LSpanS.B ai mixed 27 _ [4] [.tmp 4] Tryz.func59 rfl rfl rfl rfl rfl ?_;intro O r (F : LSpanS.Fns) hO hr (hF : F = LSpanS.F0);cbv;refine aK (fun hb => ?_) (fun hb => ?_) <;> cbv
 ·(subst hO hr hF; (try simp only [ah, SS, sa, az] at *); (try simp only [nc] at *); (try simp only [aF] at *)); exact absurd rfl hb
 ·clear hb;refine ⟨[0, 1, 5], [], Int, fun i => [.reg 5 (.one (.v (.int .i64 i)))], fun i => 0 <= i /\ i.toNat <= es.length, fun i => es.length - i.toNat, ⟨0, ?_, ?_⟩, ?_⟩
  ·exact ⟨by omega, Nat.zero_le _⟩
  ·cbv
  ·rintro i hi;replace hi : 0 <= i /\ i.toNat <= es.length := hi;obtain ⟨g0, g1⟩ := hi;cbv
   repeat' first | refine And.intro ?_ ?_ | (refine aK (fun hb => ?_) (fun hb => ?_) <;> cbv) | (refine aa (O.ar .add .i64 i 1) ?_ ?_ ?_; rotate_left 2; focus (cbv; done))
   all_goals (subst hO hr hF; (try simp only [ah, SS, sa, az] at *); (try simp only [nc] at *); (try simp only [aF] at *))
   all_goals (try simp only [LSpanS.F0] at *)
   all_goals try have hlt : i < es.length := by assumption
   all_goals try rw [cJ (n := es.length) g0 hlt (by omega)]
   all_goals try have he : es.getD i.toNat [] = [.v (.int .i64 (ab es i 0)), .v (.int .i64 (ab es i 1)), .v (.int .i64 (ab es i 2))] := (aH hwf g0 hlt).symm
   all_goals try have hct := bF (es := es) (n := i.toNat) (by omega); rw [he] at hct; simp only [cN, dA, Nat.add_zero, Nat.zero_add] at hct
   all_goals have hle1 := av (es := es) (n := i.toNat + 1)
   all_goals have hcE : ao es = es.length + aS es := rfl
   all_goals first | omega | exact bR hwf g0 hlt | exact absurd rfl hb | exact absurd rfl (by assumption) | trivial | kernel_rfl | exact ⟨trivial, trivial⟩ | (refine ⟨trivial, ?_⟩; simp only [ag, ao, Nat.add_zero]; omega) | trace_state
namespace LLarge
structure Fns where
 no : Unit
def F0 : Fns := ⟨()⟩
def B : TB Tryz.prog := {Φ := Fns, F0 := F0}
end LLarge
theorem oT (a0 a1 a2 : Int) (hp : True) : aO Tryz.prog 135 [.agg [.v (.int .i64 a0), .v (.int .i64 a1), .v (.int .i64 a2)]] [.agg [.v (.int .i64 a0), .v (.int .i64 a1), .v (.int .i64 a2)]] := by
 refine aj LLarge.B ai mixed 14 _ [201] [.cell 2 201] Tryz.func135 rfl rfl rfl rfl rfl ?_;intro O r (F : LLarge.Fns) hO hr (hF : F = LLarge.F0);cbv
 repeat' first | refine And.intro ?_ ?_ | (refine aK (fun hb => ?_) (fun hb => ?_) <;> cbv)
 all_goals (subst hO hr hF; (try simp only [ah, SS, sa, az] at *); (try simp only [nc] at *); (try simp only [aF] at *))
 all_goals (try simp only [LLarge.F0] at *)
 all_goals first | trivial | exact rfl | exact ⟨trivial, trivial⟩ | exact ⟨rfl, rfl⟩ | (refine ⟨by assumption, ?_⟩; (try simp only [ag, Nat.add_zero]); omega) | ((try simp only [ag, Nat.add_zero]); omega) | trace_state
theorem oF (a0 a1 a2 : Int) (d : DV) (hp : d = .agg [.v (.int .i64 a0), .v (.int .i64 a1), .v (.int .i64 a2)]) : aO Tryz.prog 159 [.agg [.v (.int .i64 a0), .v (.int .i64 a1), .v (.int .i64 a2)], d] [.one (.v (.bool true))] := by
 subst hp;refine aj LLarge.B ai mixed 20 _ [4] [.tmp 4] Tryz.func159 rfl rfl rfl rfl rfl ?_;intro O r (F : LLarge.Fns) hO hr (hF : F = LLarge.F0);cbv
 repeat' first | refine And.intro ?_ ?_ | (refine aK (fun hb => ?_) (fun hb => ?_) <;> cbv)
 all_goals (subst hO hr hF; (try simp only [ah, SS, sa, az] at *); (try simp only [nc] at *); (try simp only [aF] at *))
 all_goals (try simp only [LLarge.F0] at *)
 all_goals first | trivial | exact rfl | exact absurd rfl hb | exact absurd rfl (by assumption) | (refine ⟨trivial, by assumption, ?_⟩; (try simp only [ag, Nat.add_zero]); omega) | (refine ⟨trivial, ?_⟩; (try simp only [ag, Nat.add_zero]); omega) | trace_state
namespace LLargeS
structure Fns where
 no : Unit
def F0 : Fns := ⟨()⟩
def ct (F : Fns) : CT := fun f ds => match f, ds with
 | 135, [.agg [.v (.int .i64 a0), .v (.int .i64 a1), .v (.int .i64 a2)]] => some (fun _ => True, [.agg [.v (.int .i64 a0), .v (.int .i64 a1), .v (.int .i64 a2)]])
 | 159, [.agg [.v (.int .i64 a0), .v (.int .i64 a1), .v (.int .i64 a2)], d] => some (fun _ => d = .agg [.v (.int .i64 a0), .v (.int .i64 a1), .v (.int .i64 a2)], [.one (.v (.bool true))])
 | _, _ => none
theorem am : aV Tryz.prog (ct F0) := by
 intro f ds pre res h hp;unfold ct at h;split at h <;> (try split at h) <;> cases h
 exact oT _ _ _ hp;exact oF _ _ _ _ hp
def B : TB Tryz.prog := tb am
end LLargeS
theorem mS (es : List (List L)) (left : Int) (hp : Rw [tI, tI, tI] es /\ 0 <= left /\ left <= 1048576) : aO Tryz.prog 38 [.one (.s 3 es), .one (.v (.int .i64 left))] [.one (.v (.int .i64 (aY [es] left)))] := by
 obtain ⟨hw, h0, h1⟩ := hp;have hc : ao es = es.length := hw.cnt rfl;have hm := hw.1; unfold maxLen at hm;have hs : bu .sub .i64 left es.length = left - es.length := ce (by omega);have hn : aY [es] left = if left < es.length then -1 else left - es.length := by unfold aY; rw [cp, hc]
 refine aj LLargeS.B ai mixed 12 _ [3] [.tmp 4] Tryz.func38 rfl rfl rfl rfl rfl ?_;intro O r (F : LLargeS.Fns) hO hr (hF : F = LLargeS.F0);cbv
 repeat' first | refine And.intro ?_ ?_ | (refine aK (fun hb => ?_) (fun hb => ?_) <;> cbv)
 all_goals (subst hO hr hF; (try simp only [ah, SS, sa, az] at *); (try simp only [nc] at *); (try simp only [aF] at *))
 all_goals (try simp only [hs, LLargeS.F0] at *)
 all_goals first | trivial | (rw [hn, if_pos (by omega)]) | (rw [hn, if_neg (by omega)])
theorem m8 (es : List (List L)) (hp : Rw [tI, tI, tI] es /\ ao es <= 1048576) : aO Tryz.prog 49 [.one (.s 3 es)] [.one (.s 3 es)] := by
 obtain ⟨hw, hlim⟩ := hp;have hwf : Wf [.v (.int .i64 0), .v (.int .i64 0), .v (.int .i64 0)] es := hw.wf;have hlen : es.length <= 1048576 := Nat.le_trans (Nat.le_add_right _ _) hlim;refine aj LLargeS.B ai mixed 23 _ [63] [.tmp 2] Tryz.func49 rfl rfl rfl rfl rfl ?_;intro O r (F : LLargeS.Fns) hO hr (hF : F = LLargeS.F0);cbv;have h0z : bD es [.v (.int .i64 0), .v (.int .i64 0), .v (.int .i64 0)] 0 = O.rep (O.zi (O.ln es)) [.v (.int .i64 0), .v (.int .i64 0), .v (.int .i64 0)] := by
  subst hO;rw [bV]; rfl
 refine ⟨?_, ?_, [0, 3, 4], [3], Int × List (List L), fun s => [.reg 4 (.one (.v (.int .i64 s.1))), .leaf 3 0 ⟨0, 0, none, .own (.s 3 s.2)⟩], fun s => 0 <= s.1 /\ s.1.toNat <= es.length /\ s.2 = bD es [.v (.int .i64 0), .v (.int .i64 0), .v (.int .i64 0)] s.1.toNat, fun s => es.length - s.1.toNat, ⟨(0, O.rep (O.zi (O.ln es)) [.v (.int .i64 0), .v (.int .i64 0), .v (.int .i64 0)]), ?_, ?_⟩, ?_⟩
 ·subst hO;exact gK (b := 24) (show es.length * _ <= _ by omega) (show es.length <= _ by omega)
 ·subst hO;exact ⟨rfl, rfl⟩
 ·exact ⟨by omega, Nat.zero_le _, h0z.symm⟩
 ·cbv
 ·rintro ⟨i, m⟩ hi;replace hi : 0 <= i /\ i.toNat <= es.length /\ m = bD es [.v (.int .i64 0), .v (.int .i64 0), .v (.int .i64 0)] i.toNat := hi;obtain ⟨g0, g1, hm⟩ := hi;cbv
  repeat' first | refine And.intro ?_ ?_ | (refine aK (fun hb => ?_) (fun hb => ?_) <;> cbv) | (refine aa (O.ar .add .i64 i 1, O.up (.s 3 m) [(O.ad 0 i, 0)] [.v (.int .i64 (O.gi es i 0)), .v (.int .i64 (O.gi es i 1)), .v (.int .i64 (O.gi es i 2))]) ?_ ?_ ?_; rotate_left 2; focus (cbv; done))
  all_goals (subst hO hr hF; (try simp only [ah, SS, sa, az] at *); (try simp only [nc] at *); (try simp only [aF] at *))
  all_goals (try simp only [LLargeS.F0, lx, List.length_replicate, Int.toNat_natCast] at *)
  all_goals try have hlt : i < es.length := by assumption
  all_goals try rw [cJ (n := es.length) g0 hlt (by omega)]
  all_goals try have he : es.getD i.toNat [] = [.v (.int .i64 (ab es i 0)), .v (.int .i64 (ab es i 1)), .v (.int .i64 (ab es i 2))] := (aH hwf g0 hlt).symm
  all_goals try have hct := bF (es := es) (n := i.toNat) (by omega); rw [he] at hct; simp only [cN, dA, Nat.add_zero, Nat.zero_add] at hct
  all_goals have hle1 := av (es := es) (n := i.toNat + 1)
  all_goals have hcE : ao es = es.length + aS es := rfl
  all_goals first | exact bR hwf g0 hlt | exact ⟨g0, hlt⟩ | (rw [hm]; exact cv (by rw [aE g1]; omega) (by rw [aT (by omega)]; exact Nat.le_refl _)) | omega | (rw [show (i + 1).toNat = i.toNat + 1 from by omega, <- cu (by omega), <- hm, dr (by rw [hm, aT (by omega)]; rfl), he]) | (rw [hm, aE g1]; exact ⟨trivial, rfl⟩) | (rw [hm, show i.toNat = es.length from by omega, cr]) | trivial | exact ⟨trivial, trivial⟩ | (refine ⟨?_⟩; simp only [ag, ao, Nat.add_zero]; omega) | trace_state
theorem mK (es : List (List L)) (d : DV) (hp : d = .one (.s 3 es) /\ Rw [tI, tI, tI] es /\ ao es <= 1099511627776) : aO Tryz.prog 60 [.one (.s 3 es), d] [.one (.v (.bool true))] := by
 obtain ⟨rfl, hw, hlim⟩ := hp;have hwf : Wf [.v (.int .i64 0), .v (.int .i64 0), .v (.int .i64 0)] es := hw.wf;have hlen : es.length <= 1099511627776 := Nat.le_trans (Nat.le_add_right _ _) hlim;refine aj LLargeS.B ai mixed 27 _ [4] [.tmp 4] Tryz.func60 rfl rfl rfl rfl rfl ?_;intro O r (F : LLargeS.Fns) hO hr (hF : F = LLargeS.F0);cbv;refine aK (fun hb => ?_) (fun hb => ?_) <;> cbv
 ·(subst hO hr hF; (try simp only [ah, SS, sa, az] at *); (try simp only [nc] at *); (try simp only [aF] at *)); exact absurd rfl hb
 ·clear hb;refine ⟨[0, 1, 5], [], Int, fun i => [.reg 5 (.one (.v (.int .i64 i)))], fun i => 0 <= i /\ i.toNat <= es.length, fun i => es.length - i.toNat, ⟨0, ?_, ?_⟩, ?_⟩
  ·exact ⟨by omega, Nat.zero_le _⟩
  ·cbv
  ·rintro i hi;replace hi : 0 <= i /\ i.toNat <= es.length := hi;obtain ⟨g0, g1⟩ := hi;cbv
   repeat' first | refine And.intro ?_ ?_ | (refine aK (fun hb => ?_) (fun hb => ?_) <;> cbv) | (refine aa (O.ar .add .i64 i 1) ?_ ?_ ?_; rotate_left 2; focus (cbv; done))
   all_goals (subst hO hr hF; (try simp only [ah, SS, sa, az] at *); (try simp only [nc] at *); (try simp only [aF] at *))
   all_goals (try simp only [LLargeS.F0] at *)
   all_goals try have hlt : i < es.length := by assumption
   all_goals try rw [cJ (n := es.length) g0 hlt (by omega)]
   all_goals try have he : es.getD i.toNat [] = [.v (.int .i64 (ab es i 0)), .v (.int .i64 (ab es i 1)), .v (.int .i64 (ab es i 2))] := (aH hwf g0 hlt).symm
   all_goals try have hct := bF (es := es) (n := i.toNat) (by omega); rw [he] at hct; simp only [cN, dA, Nat.add_zero, Nat.zero_add] at hct
   all_goals have hle1 := av (es := es) (n := i.toNat + 1)
   all_goals have hcE : ao es = es.length + aS es := rfl
   all_goals first | omega | exact bR hwf g0 hlt | exact absurd rfl hb | exact absurd rfl (by assumption) | trivial | kernel_rfl | exact ⟨trivial, trivial⟩ | (refine ⟨trivial, ?_⟩; simp only [ag, ao, Nat.add_zero]; omega) | trace_state
end Go.V