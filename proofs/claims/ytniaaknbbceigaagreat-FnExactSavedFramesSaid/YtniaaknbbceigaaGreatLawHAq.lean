/-
  Contracts, by evaluation.
-/
import Derived.Test.YtniaaknbbceigaaGreatS10
import Derived.Test.YtniaaknbbceigaaGreatVE
set_option linter.all false
namespace Go.V
open Go Go.Proofs
set_option maxRecDepth 1000000
set_option maxHeartbeats 8000000
namespace LIntS
structure Fns where
 no : Unit
def F0 : Fns := ⟨()⟩
def B : TB Tryz.prog := {Φ := Fns, F0 := F0}
end LIntS
theorem fm (es : List (List L)) (left : Int) (hp : Rw [tI] es /\ 0 <= left /\ left <= 1048576) : aO Tryz.prog 112 [.one (.s 1 es), .one (.v (.int .i64 left))] [.one (.v (.int .i64 (aY [es] left)))] := by
 obtain ⟨hw, h0, h1⟩ := hp;have hc : ao es = es.length := hw.cnt rfl;have hm := hw.1; unfold maxLen at hm;have hs : bu .sub .i64 left es.length = left - es.length := ce (by omega);have hn : aY [es] left = if left < es.length then -1 else left - es.length := by unfold aY; rw [cp, hc]
 refine aj LIntS.B ai mixed 12 _ [3] [.tmp 4] Tryz.func112 rfl rfl rfl rfl rfl ?_;intro O r (F : LIntS.Fns) hO hr (hF : F = LIntS.F0);cbv
 repeat' first | refine And.intro ?_ ?_ | (refine aK (fun hb => ?_) (fun hb => ?_) <;> cbv)
 all_goals (subst hO hr hF; (try simp only [ah, SS, sa, az] at *); (try simp only [nc] at *); (try simp only [aF] at *))
 all_goals (try simp only [hs, LIntS.F0] at *)
 all_goals first | trivial | (rw [hn, if_pos (by omega)]) | (rw [hn, if_neg (by omega)])
theorem fq (es : List (List L)) (hp : Rw [tI] es /\ ao es <= 1048576) : aO Tryz.prog 132 [.one (.s 1 es)] [.one (.s 1 es)] := by
 obtain ⟨hw, hlim⟩ := hp;have hwf : Wf [.v (.int .i64 0)] es := hw.wf;have hlen : es.length <= 1048576 := Nat.le_trans (Nat.le_add_right _ _) hlim;refine aj LIntS.B ai mixed 22 _ [31] [.tmp 2] Tryz.func132 rfl rfl rfl rfl rfl ?_;intro O r (F : LIntS.Fns) hO hr (hF : F = LIntS.F0);cbv;have h0z : bD es [.v (.int .i64 0)] 0 = O.rep (O.zi (O.ln es)) [.v (.int .i64 0)] := by
  subst hO;rw [bV]; rfl
 refine ⟨?_, ?_, [0, 3, 4], [3], Int × List (List L), fun s => [.reg 4 (.one (.v (.int .i64 s.1))), .leaf 3 0 ⟨0, 0, none, .own (.s 1 s.2)⟩], fun s => 0 <= s.1 /\ s.1.toNat <= es.length /\ s.2 = bD es [.v (.int .i64 0)] s.1.toNat, fun s => es.length - s.1.toNat, ⟨(0, O.rep (O.zi (O.ln es)) [.v (.int .i64 0)]), ?_, ?_⟩, ?_⟩
 ·subst hO;exact gK (b := 8) (show es.length * _ <= _ by omega) (show es.length <= _ by omega)
 ·subst hO;exact ⟨rfl, rfl⟩
 ·exact ⟨by omega, Nat.zero_le _, h0z.symm⟩
 ·cbv
 ·rintro ⟨i, m⟩ hi;replace hi : 0 <= i /\ i.toNat <= es.length /\ m = bD es [.v (.int .i64 0)] i.toNat := hi;obtain ⟨g0, g1, hm⟩ := hi;cbv
  repeat' first | refine And.intro ?_ ?_ | (refine aK (fun hb => ?_) (fun hb => ?_) <;> cbv) | (refine aa (O.ar .add .i64 i 1, O.up (.s 1 m) [(O.ad 0 i, 0)] [.v (.int .i64 (O.gi es i 0))]) ?_ ?_ ?_; rotate_left 2; focus (cbv; done))
  all_goals (subst hO hr hF; (try simp only [ah, SS, sa, az] at *); (try simp only [nc] at *); (try simp only [aF] at *))
  all_goals (try simp only [LIntS.F0, lx, List.length_replicate, Int.toNat_natCast] at *)
  all_goals try have hlt : i < es.length := by assumption
  all_goals try rw [cJ (n := es.length) g0 hlt (by omega)]
  all_goals try have he : es.getD i.toNat [] = [.v (.int .i64 (ab es i 0))] := (aH hwf g0 hlt).symm
  all_goals try have hct := bF (es := es) (n := i.toNat) (by omega); rw [he] at hct; simp only [cN, dA, Nat.add_zero, Nat.zero_add] at hct
  all_goals have hle1 := av (es := es) (n := i.toNat + 1)
  all_goals have hcE : ao es = es.length + aS es := rfl
  all_goals first | exact bR hwf g0 hlt | exact ⟨g0, hlt⟩ | (rw [hm]; exact cv (by rw [aE g1]; omega) (by rw [aT (by omega)]; exact Nat.le_refl _)) | omega | (rw [show (i + 1).toNat = i.toNat + 1 from by omega, <- cu (by omega), <- hm, dr (by rw [hm, aT (by omega)]; rfl), he]) | (rw [hm, aE g1]; exact ⟨trivial, rfl⟩) | (rw [hm, show i.toNat = es.length from by omega, cr]) | trivial | exact ⟨trivial, trivial⟩ | (refine ⟨?_⟩; simp only [ag, ao, Nat.add_zero]; omega) | trace_state
theorem fj (es : List (List L)) (d : DV) (hp : d = .one (.s 1 es) /\ Rw [tI] es /\ ao es <= 1099511627776) : aO Tryz.prog 31 [.one (.s 1 es), d] [.one (.v (.bool true))] := by
 obtain ⟨rfl, hw, hlim⟩ := hp;have hwf : Wf [.v (.int .i64 0)] es := hw.wf;have hlen : es.length <= 1099511627776 := Nat.le_trans (Nat.le_add_right _ _) hlim;refine aj LIntS.B ai mixed 26 _ [4] [.tmp 4] Tryz.func31 rfl rfl rfl rfl rfl ?_;intro O r (F : LIntS.Fns) hO hr (hF : F = LIntS.F0);cbv;refine aK (fun hb => ?_) (fun hb => ?_) <;> cbv
 ·(subst hO hr hF; (try simp only [ah, SS, sa, az] at *); (try simp only [nc] at *); (try simp only [aF] at *)); exact absurd rfl hb
 ·clear hb;refine ⟨[0, 1, 5], [], Int, fun i => [.reg 5 (.one (.v (.int .i64 i)))], fun i => 0 <= i /\ i.toNat <= es.length, fun i => es.length - i.toNat, ⟨0, ?_, ?_⟩, ?_⟩
  ·exact ⟨by omega, Nat.zero_le _⟩
  ·cbv
  ·rintro i hi;replace hi : 0 <= i /\ i.toNat <= es.length := hi;obtain ⟨g0, g1⟩ := hi;cbv
   repeat' first | refine And.intro ?_ ?_ | (refine aK (fun hb => ?_) (fun hb => ?_) <;> cbv) | (refine aa (O.ar .add .i64 i 1) ?_ ?_ ?_; rotate_left 2; focus (cbv; done))
   all_goals (subst hO hr hF; (try simp only [ah, SS, sa, az] at *); (try simp only [nc] at *); (try simp only [aF] at *))
   all_goals (try simp only [LIntS.F0] at *)
   all_goals try have hlt : i < es.length := by assumption
   all_goals try rw [cJ (n := es.length) g0 hlt (by omega)]
   all_goals try have he : es.getD i.toNat [] = [.v (.int .i64 (ab es i 0))] := (aH hwf g0 hlt).symm
   all_goals try have hct := bF (es := es) (n := i.toNat) (by omega); rw [he] at hct; simp only [cN, dA, Nat.add_zero, Nat.zero_add] at hct
   all_goals have hle1 := av (es := es) (n := i.toNat + 1)
   all_goals have hcE : ao es = es.length + aS es := rfl
   all_goals first | omega | exact bR hwf g0 hlt | exact absurd rfl hb | exact absurd rfl (by assumption) | trivial | kernel_rfl | exact ⟨trivial, trivial⟩ | (refine ⟨trivial, ?_⟩; simp only [ag, ao, Nat.add_zero]; omega) | trace_state
namespace LIntSS
structure Fns where
 szN : List (List (List L)) -> Int -> Int
def F0 : Fns := ⟨aY⟩
def ct (F : Fns) : CT := fun f ds => match f, ds with
 | 112, [.one (.s 1 es), .one (.v (.int .i64 left))] => some (fun _ => Rw [tI] es /\ 0 <= left /\ left <= 1048576, [.one (.v (.int .i64 (F.szN [es] left)))])
 | 132, [.one (.s 1 es)] => some (fun _ => Rw [tI] es /\ ao es <= 1048576, [.one (.s 1 es)])
 | 31, [.one (.s 1 es), d] => some (fun _ => d = .one (.s 1 es) /\ Rw [tI] es /\ ao es <= 1099511627776, [.one (.v (.bool true))])
 | _, _ => none
theorem am : aV Tryz.prog (ct F0) := by
 intro f ds pre res h hp;unfold ct at h;split at h <;> (try split at h) <;> cases h
 exact fm _ _ hp;exact fq _ hp;exact fj _ _ hp
def B : TB Tryz.prog := tb am
end LIntSS
theorem eD (es : List (List L)) (left : Int) (hp : Rw [.sl [tI]] es /\ 0 <= left /\ left <= 1048576) : aO Tryz.prog 115 [.one (.s 1 es), .one (.v (.int .i64 left))] [.one (.v (.int .i64 (aY [es] left)))] := by
 obtain ⟨hw, h0, h1⟩ := hp;have hwf : Wf [.s 1 []] es := hw.wf;have hm := hw.1; unfold maxLen at hm;have hs : bu .sub .i64 left es.length = left - es.length := ce (by omega);have hcE : ao es = es.length + aS es := rfl;have hn : aY [es] left = if left < ao es then -1 else left - ao es := by unfold aY; rw [cp]
 refine aj LIntSS.B ai mixed 27 _ [3] [.tmp 4] Tryz.func115 rfl rfl rfl rfl rfl ?_;intro O r (F : LIntSS.Fns) hO hr (hF : F = LIntSS.F0);cbv;refine aK (fun hb => ?_) (fun hb => ?_) <;> cbv
 ·repeat' first | refine And.intro ?_ ?_ | (refine aK (fun hb => ?_) (fun hb => ?_) <;> cbv)
  all_goals (subst hO hr hF; (try simp only [ah, SS, sa, az] at *); (try simp only [nc] at *); (try simp only [aF] at *))
  all_goals (try simp only [hs, LIntSS.F0] at *)
  all_goals first | trivial | (rw [hn, if_pos (by omega)]) | trace_state
 have hb0 : 0 <= left - es.length := by
  (subst hO hr hF; (try simp only [ah, SS, sa, az] at *); (try simp only [nc] at *); (try simp only [aF] at *))
  rw [hs] at hb;exact hb
 clear hb;refine ⟨[0, 1, 5], [], Int × Int, fun s => match s with | (i, l) => [.reg 5 (.one (.v (.int .i64 i))), .reg 1 (.one (.v (.int .i64 l)))], fun s => 0 <= s.1 /\ s.1.toNat <= es.length /\ 0 <= s.2 /\ s.2 = left - es.length - aS (es.take s.1.toNat), fun s => es.length - s.1.toNat, ⟨(0, O.ar .sub .i64 left (O.zi (O.ln es))), ?_, ?_⟩, ?_⟩
 ·(subst hO hr hF; (try simp only [ah, SS, sa, az] at *); (try simp only [nc] at *); (try simp only [aF] at *))
  rw [hs];exact ⟨by omega, Nat.zero_le _, hb0, by simp [aS]⟩
 ·cbv
 ·rintro ⟨i, l⟩ hi;replace hi : 0 <= i /\ i.toNat <= es.length /\ 0 <= l /\ l = left - es.length - aS (es.take i.toNat) := hi;obtain ⟨g0, g1, g2, g3⟩ := hi;cbv
  repeat' first | refine And.intro ?_ ?_ | (refine aK (fun hb => ?_) (fun hb => ?_) <;> cbv) | (refine aa (O.ar .add .i64 i 1, F.szN [O.gs es i 0] l) ?_ ?_ ?_; rotate_left 2; focus (cbv; done))
  all_goals (subst hO hr hF; (try simp only [ah, SS, sa, az] at *); (try simp only [nc] at *); (try simp only [aF] at *))
  all_goals try have hlt : i < es.length := by assumption
  all_goals try rw [cJ (n := es.length) g0 hlt (by omega)]
  all_goals (try simp only [LIntSS.F0] at *)
  all_goals try have he : es.getD i.toNat [] = [.s 1 (ay es i 0)] := (aH hwf g0 hlt).symm
  all_goals try have hr0 : Rw [tI] (ay es i 0) := Rw.sub (fs := [.sl [tI]]) hw (by omega) rfl
  all_goals try have hct := bF (es := es) (n := i.toNat) (by omega); rw [he] at hct; simp only [cN, dA, Nat.add_zero, Nat.zero_add] at hct
  all_goals have hle := av (es := es) (n := i.toNat)
  all_goals have hle1 := av (es := es) (n := i.toNat + 1)
  all_goals have hsz := er (a := [ay es i 0]) (left := l)
  all_goals have hsz2 : 0 <= aY [ay es i 0] l -> aY [ay es i 0] l = l - ag [ay es i 0] := kF
  all_goals simp only [ag, ao, Nat.add_zero] at hsz hsz2
  all_goals first | exact bR hwf g0 hlt | exact ⟨hr0, by omega, by omega⟩ | trivial | omega | (rw [hn, if_pos]; omega) | (rw [hn, if_neg (by rw [show i.toNat = es.length from by omega, List.take_length] at g3; omega), show l = left - ao es from by rw [show i.toNat = es.length from by omega, List.take_length] at g3; omega]) | (rw [show (i + 1).toNat = i.toNat + 1 from by omega, hct]; omega) | trace_state
theorem eE (es : List (List L)) (hp : Rw [.sl [tI]] es /\ ao es <= 1048576) : aO Tryz.prog 139 [.one (.s 1 es)] [.one (.s 1 es)] := by
 obtain ⟨hw, hlim⟩ := hp;have hwf : Wf [.s 1 []] es := hw.wf;have hlen : es.length <= 1048576 := Nat.le_trans (Nat.le_add_right _ _) hlim;refine aj LIntSS.B ai mixed 23 _ [22] [.tmp 2] Tryz.func139 rfl rfl rfl rfl rfl ?_;intro O r (F : LIntSS.Fns) hO hr (hF : F = LIntSS.F0);cbv;have h0z : bD es [.s 1 []] 0 = O.rep (O.zi (O.ln es)) [.s 1 []] := by
  subst hO;rw [bV]; rfl
 refine ⟨?_, ?_, [0, 3, 4], [3], Int × List (List L), fun s => [.reg 4 (.one (.v (.int .i64 s.1))), .leaf 3 0 ⟨0, 0, none, .own (.s 1 s.2)⟩], fun s => 0 <= s.1 /\ s.1.toNat <= es.length /\ s.2 = bD es [.s 1 []] s.1.toNat, fun s => es.length - s.1.toNat, ⟨(0, O.rep (O.zi (O.ln es)) [.s 1 []]), ?_, ?_⟩, ?_⟩
 ·subst hO;exact gK (b := 24) (show es.length * _ <= _ by omega) (show es.length <= _ by omega)
 ·subst hO;exact ⟨rfl, rfl⟩
 ·exact ⟨by omega, Nat.zero_le _, h0z.symm⟩
 ·cbv
 ·rintro ⟨i, m⟩ hi;replace hi : 0 <= i /\ i.toNat <= es.length /\ m = bD es [.s 1 []] i.toNat := hi;obtain ⟨g0, g1, hm⟩ := hi;cbv
  repeat' first | refine And.intro ?_ ?_ | (refine aK (fun hb => ?_) (fun hb => ?_) <;> cbv) | (refine aa (O.ar .add .i64 i 1, O.up (.s 1 m) [(O.ad 0 i, 0)] [.s 1 (O.gs es i 0)]) ?_ ?_ ?_; rotate_left 2; focus (cbv; done))
  all_goals (subst hO hr hF; (try simp only [ah, SS, sa, az] at *); (try simp only [nc] at *); (try simp only [aF] at *))
  all_goals (try simp only [LIntSS.F0, lx, List.length_replicate, Int.toNat_natCast] at *)
  all_goals try have hlt : i < es.length := by assumption
  all_goals try rw [cJ (n := es.length) g0 hlt (by omega)]
  all_goals try have he : es.getD i.toNat [] = [.s 1 (ay es i 0)] := (aH hwf g0 hlt).symm
  all_goals try have hr0 : Rw [tI] (ay es i 0) := Rw.sub (fs := [.sl [tI]]) hw (by omega) rfl
  all_goals try have hct := bF (es := es) (n := i.toNat) (by omega); rw [he] at hct; simp only [cN, dA, Nat.add_zero, Nat.zero_add] at hct
  all_goals have hle1 := av (es := es) (n := i.toNat + 1)
  all_goals have hcE : ao es = es.length + aS es := rfl
  all_goals first | exact bR hwf g0 hlt | exact ⟨g0, hlt⟩ | (rw [hm]; exact cv (by rw [aE g1]; omega) (by rw [aT (by omega)]; exact Nat.le_refl _)) | omega | (rw [show (i + 1).toNat = i.toNat + 1 from by omega, <- cu (by omega), <- hm, dr (by rw [hm, aT (by omega)]; rfl), he]) | (rw [hm, aE g1]; exact ⟨trivial, rfl⟩) | (rw [hm, show i.toNat = es.length from by omega, cr]) | trivial | exact ⟨trivial, trivial⟩ | (refine ⟨hr0, ?_⟩; simp only [ag, ao, Nat.add_zero]; omega) | trace_state
theorem eC (es : List (List L)) (d : DV) (hp : d = .one (.s 1 es) /\ Rw [.sl [tI]] es /\ ao es <= 1099511627776) : aO Tryz.prog 163 [.one (.s 1 es), d] [.one (.v (.bool true))] := by
 obtain ⟨rfl, hw, hlim⟩ := hp;have hwf : Wf [.s 1 []] es := hw.wf;have hlen : es.length <= 1099511627776 := Nat.le_trans (Nat.le_add_right _ _) hlim;refine aj LIntSS.B ai mixed 27 _ [4] [.tmp 4] Tryz.func163 rfl rfl rfl rfl rfl ?_;intro O r (F : LIntSS.Fns) hO hr (hF : F = LIntSS.F0);cbv;refine aK (fun hb => ?_) (fun hb => ?_) <;> cbv
 ·(subst hO hr hF; (try simp only [ah, SS, sa, az] at *); (try simp only [nc] at *); (try simp only [aF] at *)); exact absurd rfl hb
 ·clear hb;refine ⟨[0, 1, 5], [], Int, fun i => [.reg 5 (.one (.v (.int .i64 i)))], fun i => 0 <= i /\ i.toNat <= es.length, fun i => es.length - i.toNat, ⟨0, ?_, ?_⟩, ?_⟩
  ·exact ⟨by omega, Nat.zero_le _⟩
  ·cbv
  ·rintro i hi;replace hi : 0 <= i /\ i.toNat <= es.length := hi;obtain ⟨g0, g1⟩ := hi;cbv
   repeat' first | refine And.intro ?_ ?_ | (refine aK (fun hb => ?_) (fun hb => ?_) <;> cbv) | (refine aa (O.ar .add .i64 i 1) ?_ ?_ ?_; rotate_left 2; focus (cbv; done))
   all_goals (subst hO hr hF; (try simp only [ah, SS, sa, az] at *); (try simp only [nc] at *); (try simp only [aF] at *))
   all_goals (try simp only [LIntSS.F0] at *)
   all_goals try have hlt : i < es.length := by assumption
   all_goals try rw [cJ (n := es.length) g0 hlt (by omega)]
   all_goals try have he : es.getD i.toNat [] = [.s 1 (ay es i 0)] := (aH hwf g0 hlt).symm
   all_goals try have hr0 : Rw [tI] (ay es i 0) := Rw.sub (fs := [.sl [tI]]) hw (by omega) rfl
   all_goals try have hct := bF (es := es) (n := i.toNat) (by omega); rw [he] at hct; simp only [cN, dA, Nat.add_zero, Nat.zero_add] at hct
   all_goals have hle1 := av (es := es) (n := i.toNat + 1)
   all_goals have hcE : ao es = es.length + aS es := rfl
   all_goals first | omega | exact bR hwf g0 hlt | exact absurd rfl hb | exact absurd rfl (by assumption) | trivial | kernel_rfl | exact ⟨trivial, trivial⟩ | (refine ⟨trivial, hr0, ?_⟩; simp only [ag, ao, Nat.add_zero]; omega) | trace_state
namespace LBoolS
structure Fns where
 no : Unit
def F0 : Fns := ⟨()⟩
def B : TB Tryz.prog := {Φ := Fns, F0 := F0}
end LBoolS
theorem oL (es : List (List L)) (left : Int) (hp : Rw [tB] es /\ 0 <= left /\ left <= 1048576) : aO Tryz.prog 242 [.one (.s 1 es), .one (.v (.int .i64 left))] [.one (.v (.int .i64 (aY [es] left)))] := by
 obtain ⟨hw, h0, h1⟩ := hp;have hc : ao es = es.length := hw.cnt rfl;have hm := hw.1; unfold maxLen at hm;have hs : bu .sub .i64 left es.length = left - es.length := ce (by omega);have hn : aY [es] left = if left < es.length then -1 else left - es.length := by unfold aY; rw [cp, hc]
 refine aj LBoolS.B ai mixed 12 _ [3] [.tmp 4] Tryz.func242 rfl rfl rfl rfl rfl ?_;intro O r (F : LBoolS.Fns) hO hr (hF : F = LBoolS.F0);cbv
 repeat' first | refine And.intro ?_ ?_ | (refine aK (fun hb => ?_) (fun hb => ?_) <;> cbv)
 all_goals (subst hO hr hF; (try simp only [ah, SS, sa, az] at *); (try simp only [nc] at *); (try simp only [aF] at *))
 all_goals (try simp only [hs, LBoolS.F0] at *)
 all_goals first | trivial | (rw [hn, if_pos (by omega)]) | (rw [hn, if_neg (by omega)])
theorem oQ (es : List (List L)) (hp : Rw [tB] es /\ ao es <= 1048576) : aO Tryz.prog 247 [.one (.s 1 es)] [.one (.s 1 es)] := by
 obtain ⟨hw, hlim⟩ := hp;have hwf : Wf [.v (.bool false)] es := hw.wf;have hlen : es.length <= 1048576 := Nat.le_trans (Nat.le_add_right _ _) hlim;refine aj LBoolS.B ai mixed 22 _ [23] [.tmp 2] Tryz.func247 rfl rfl rfl rfl rfl ?_;intro O r (F : LBoolS.Fns) hO hr (hF : F = LBoolS.F0);cbv;have h0z : bD es [.v (.bool false)] 0 = O.rep (O.zi (O.ln es)) [.v (.bool false)] := by
  subst hO;rw [bV]; rfl
 refine ⟨?_, ?_, [0, 3, 4], [3], Int × List (List L), fun s => [.reg 4 (.one (.v (.int .i64 s.1))), .leaf 3 0 ⟨0, 0, none, .own (.s 1 s.2)⟩], fun s => 0 <= s.1 /\ s.1.toNat <= es.length /\ s.2 = bD es [.v (.bool false)] s.1.toNat, fun s => es.length - s.1.toNat, ⟨(0, O.rep (O.zi (O.ln es)) [.v (.bool false)]), ?_, ?_⟩, ?_⟩
 ·subst hO;exact gK (b := 1) (show es.length * _ <= _ by omega) (show es.length <= _ by omega)
 ·subst hO;exact ⟨rfl, rfl⟩
 ·exact ⟨by omega, Nat.zero_le _, h0z.symm⟩
 ·cbv
 ·rintro ⟨i, m⟩ hi;replace hi : 0 <= i /\ i.toNat <= es.length /\ m = bD es [.v (.bool false)] i.toNat := hi;obtain ⟨g0, g1, hm⟩ := hi;cbv
  repeat' first | refine And.intro ?_ ?_ | (refine aK (fun hb => ?_) (fun hb => ?_) <;> cbv) | (refine aa (O.ar .add .i64 i 1, O.up (.s 1 m) [(O.ad 0 i, 0)] [.v (.bool (O.gb es i 0))]) ?_ ?_ ?_; rotate_left 2; focus (cbv; done))
  all_goals (subst hO hr hF; (try simp only [ah, SS, sa, az] at *); (try simp only [nc] at *); (try simp only [aF] at *))
  all_goals (try simp only [LBoolS.F0, lx, List.length_replicate, Int.toNat_natCast] at *)
  all_goals try have hlt : i < es.length := by assumption
  all_goals try rw [cJ (n := es.length) g0 hlt (by omega)]
  all_goals try have he : es.getD i.toNat [] = [.v (.bool (rH es i 0))] := (aH hwf g0 hlt).symm
  all_goals try have hct := bF (es := es) (n := i.toNat) (by omega); rw [he] at hct; simp only [cN, dA, Nat.add_zero, Nat.zero_add] at hct
  all_goals have hle1 := av (es := es) (n := i.toNat + 1)
  all_goals have hcE : ao es = es.length + aS es := rfl
  all_goals first | exact bR hwf g0 hlt | exact ⟨g0, hlt⟩ | (rw [hm]; exact cv (by rw [aE g1]; omega) (by rw [aT (by omega)]; exact Nat.le_refl _)) | omega | (rw [show (i + 1).toNat = i.toNat + 1 from by omega, <- cu (by omega), <- hm, dr (by rw [hm, aT (by omega)]; rfl), he]) | (rw [hm, aE g1]; exact ⟨trivial, rfl⟩) | (rw [hm, show i.toNat = es.length from by omega, cr]) | trivial | exact ⟨trivial, trivial⟩ | (refine ⟨?_⟩; simp only [ag, ao, Nat.add_zero]; omega) | trace_state
theorem oC (es : List (List L)) (d : DV) (hp : d = .one (.s 1 es) /\ Rw [tB] es /\ ao es <= 1099511627776) : aO Tryz.prog 259 [.one (.s 1 es), d] [.one (.v (.bool true))] := by
 obtain ⟨rfl, hw, hlim⟩ := hp;have hwf : Wf [.v (.bool false)] es := hw.wf;have hlen : es.length <= 1099511627776 := Nat.le_trans (Nat.le_add_right _ _) hlim;refine aj LBoolS.B ai mixed 26 _ [4] [.tmp 4] Tryz.func259 rfl rfl rfl rfl rfl ?_;intro O r (F : LBoolS.Fns) hO hr (hF : F = LBoolS.F0);cbv;refine aK (fun hb => ?_) (fun hb => ?_) <;> cbv
 ·(subst hO hr hF; (try simp only [ah, SS, sa, az] at *); (try simp only [nc] at *); (try simp only [aF] at *)); exact absurd rfl hb
 ·clear hb;refine ⟨[0, 1, 5], [], Int, fun i => [.reg 5 (.one (.v (.int .i64 i)))], fun i => 0 <= i /\ i.toNat <= es.length, fun i => es.length - i.toNat, ⟨0, ?_, ?_⟩, ?_⟩
  ·exact ⟨by omega, Nat.zero_le _⟩
  ·cbv
  ·rintro i hi;replace hi : 0 <= i /\ i.toNat <= es.length := hi;obtain ⟨g0, g1⟩ := hi;cbv
   repeat' first | refine And.intro ?_ ?_ | (refine aK (fun hb => ?_) (fun hb => ?_) <;> cbv) | (refine aa (O.ar .add .i64 i 1) ?_ ?_ ?_; rotate_left 2; focus (cbv; done))
   all_goals (subst hO hr hF; (try simp only [ah, SS, sa, az] at *); (try simp only [nc] at *); (try simp only [aF] at *))
   all_goals (try simp only [LBoolS.F0] at *)
   all_goals try have hlt : i < es.length := by assumption
   all_goals try rw [cJ (n := es.length) g0 hlt (by omega)]
   all_goals try have he : es.getD i.toNat [] = [.v (.bool (rH es i 0))] := (aH hwf g0 hlt).symm
   all_goals try have hct := bF (es := es) (n := i.toNat) (by omega); rw [he] at hct; simp only [cN, dA, Nat.add_zero, Nat.zero_add] at hct
   all_goals have hle1 := av (es := es) (n := i.toNat + 1)
   all_goals have hcE : ao es = es.length + aS es := rfl
   all_goals first | omega | exact bR hwf g0 hlt | exact absurd rfl hb | exact absurd rfl (by assumption) | trivial | kernel_rfl | exact ⟨trivial, trivial⟩ | (refine ⟨trivial, ?_⟩; simp only [ag, ao, Nat.add_zero]; omega) | trace_state
namespace LFrames
structure Fns where
 szN : List (List (List L)) -> Int -> Int
def F0 : Fns := ⟨aY⟩
def ct (F : Fns) : CT := fun f ds => match f, ds with
 | 115, [.one (.s 1 es), .one (.v (.int .i64 left))] => some (fun _ => Rw [.sl [tI]] es /\ 0 <= left /\ left <= 1048576, [.one (.v (.int .i64 (F.szN [es] left)))])
 | 139, [.one (.s 1 es)] => some (fun _ => Rw [.sl [tI]] es /\ ao es <= 1048576, [.one (.s 1 es)])
 | 163, [.one (.s 1 es), d] => some (fun _ => d = .one (.s 1 es) /\ Rw [.sl [tI]] es /\ ao es <= 1099511627776, [.one (.v (.bool true))])
 | 242, [.one (.s 1 es), .one (.v (.int .i64 left))] => some (fun _ => Rw [tB] es /\ 0 <= left /\ left <= 1048576, [.one (.v (.int .i64 (F.szN [es] left)))])
 | 247, [.one (.s 1 es)] => some (fun _ => Rw [tB] es /\ ao es <= 1048576, [.one (.s 1 es)])
 | 259, [.one (.s 1 es), d] => some (fun _ => d = .one (.s 1 es) /\ Rw [tB] es /\ ao es <= 1099511627776, [.one (.v (.bool true))])
 | _, _ => none
theorem am : aV Tryz.prog (ct F0) := by
 intro f ds pre res h hp;unfold ct at h;split at h <;> (try split at h) <;> cases h
 exact eD _ _ hp;exact eE _ hp;exact eC _ _ hp;exact oL _ _ hp;exact oQ _ hp;exact oC _ _ hp
def B : TB Tryz.prog := tb am
end LFrames
theorem mQ (a0 a1 : List (List L)) (left : Int) (hp : Rw [.sl [tI]] a0 /\ Rw [tB] a1 /\ 0 <= left /\ left <= 1048576) : aO Tryz.prog 196 [.agg [.s 1 a0, .s 1 a1], .one (.v (.int .i64 left))] [.one (.v (.int .i64 (aY [a0, a1] left)))] := by
 obtain ⟨w0, w1, h0, h1⟩ := hp;refine aj LFrames.B ai mixed 18 _ [3] [.tmp 4] Tryz.func196 rfl rfl rfl rfl rfl ?_;intro O r (F : LFrames.Fns) hO hr (hF : F = LFrames.F0);cbv
 repeat' first | refine And.intro ?_ ?_ | (refine aK (fun hb => ?_) (fun hb => ?_) <;> cbv)
 all_goals (subst hO hr hF; (try simp only [ah, SS, sa, az] at *); (try simp only [nc] at *); (try simp only [aF] at *))
 all_goals (try simp only [LFrames.F0] at *)
 all_goals (try simp (disch := assumption) only [dY, List.cons_append, List.nil_append] at *)
 all_goals first | trivial | exact rfl | (refine ⟨by assumption, by omega, by first | omega | exact Int.le_trans (bM (by assumption)) h1⟩) | (refine ⟨by assumption, by assumption, by omega, by first | omega | exact Int.le_trans (bM (by assumption)) h1⟩) | (rw [dm (by assumption)]) | exact congrArg (fun x => [DV.one (L.v (Value.int IntKind.i64 x))]) (bN (a := [a0]) (b := [a1]) (by assumption)).symm | trace_state
theorem mY (a0 a1 : List (List L)) (hp : Rw [.sl [tI]] a0 /\ Rw [tB] a1 /\ ag [a0, a1] <= 1048576) : aO Tryz.prog 210 [.agg [.s 1 a0, .s 1 a1]] [.agg [.s 1 a0, .s 1 a1]] := by
 obtain ⟨w0, w1, hlim⟩ := hp;simp only [ag, Nat.add_zero] at hlim;refine aj LFrames.B ai mixed 13 _ [53] [.cell 2 53] Tryz.func210 rfl rfl rfl rfl rfl ?_;intro O r (F : LFrames.Fns) hO hr (hF : F = LFrames.F0);cbv
 repeat' first | refine And.intro ?_ ?_ | (refine aK (fun hb => ?_) (fun hb => ?_) <;> cbv)
 all_goals (subst hO hr hF; (try simp only [ah, SS, sa, az] at *); (try simp only [nc] at *); (try simp only [aF] at *))
 all_goals (try simp only [LFrames.F0] at *)
 all_goals first | trivial | exact rfl | exact ⟨trivial, trivial⟩ | exact ⟨rfl, rfl⟩ | (refine ⟨by assumption, ?_⟩; (try simp only [ag, Nat.add_zero]); omega) | (refine ⟨by assumption, by assumption, ?_⟩; (try simp only [ag, Nat.add_zero]); omega) | ((try simp only [ag, Nat.add_zero]); omega) | trace_state
theorem mI (a0 a1 : List (List L)) (d : DV) (hp : d = .agg [.s 1 a0, .s 1 a1] /\ Rw [.sl [tI]] a0 /\ Rw [tB] a1 /\ ag [a0, a1] <= 1099511627776) : aO Tryz.prog 229 [.agg [.s 1 a0, .s 1 a1], d] [.one (.v (.bool true))] := by
 obtain ⟨rfl, w0, w1, hlim⟩ := hp;simp only [ag, Nat.add_zero] at hlim;refine aj LFrames.B ai mixed 17 _ [4] [.tmp 4] Tryz.func229 rfl rfl rfl rfl rfl ?_;intro O r (F : LFrames.Fns) hO hr (hF : F = LFrames.F0);cbv
 repeat' first | refine And.intro ?_ ?_ | (refine aK (fun hb => ?_) (fun hb => ?_) <;> cbv)
 all_goals (subst hO hr hF; (try simp only [ah, SS, sa, az] at *); (try simp only [nc] at *); (try simp only [aF] at *))
 all_goals (try simp only [LFrames.F0] at *)
 all_goals first | trivial | exact rfl | exact absurd rfl hb | exact absurd rfl (by assumption) | (refine ⟨trivial, by assumption, ?_⟩; (try simp only [ag, Nat.add_zero]); omega) | (refine ⟨trivial, by assumption, by assumption, ?_⟩; (try simp only [ag, Nat.add_zero]); omega) | (refine ⟨trivial, ?_⟩; (try simp only [ag, Nat.add_zero]); omega) | trace_state
namespace LEntry
structure Fns where
 no : Unit
def F0 : Fns := ⟨()⟩
def B : TB Tryz.prog := {Φ := Fns, F0 := F0}
end LEntry
theorem oS (a0 a1 : Int) (hp : True) : aO Tryz.prog 264 [.agg [.v (.int .i64 a0), .v (.int .i64 a1)]] [.agg [.v (.int .i64 a0), .v (.int .i64 a1)]] := by
 refine aj LEntry.B ai mixed 11 _ [138] [.cell 2 138] Tryz.func264 rfl rfl rfl rfl rfl ?_;intro O r (F : LEntry.Fns) hO hr (hF : F = LEntry.F0);cbv
 repeat' first | refine And.intro ?_ ?_ | (refine aK (fun hb => ?_) (fun hb => ?_) <;> cbv)
 all_goals (subst hO hr hF; (try simp only [ah, SS, sa, az] at *); (try simp only [nc] at *); (try simp only [aF] at *))
 all_goals (try simp only [LEntry.F0] at *)
 all_goals first | trivial | exact rfl | exact ⟨trivial, trivial⟩ | exact ⟨rfl, rfl⟩ | (refine ⟨by assumption, ?_⟩; (try simp only [ag, Nat.add_zero]); omega) | ((try simp only [ag, Nat.add_zero]); omega) | trace_state
theorem oE (a0 a1 : Int) (d : DV) (hp : d = .agg [.v (.int .i64 a0), .v (.int .i64 a1)]) : aO Tryz.prog 270 [.agg [.v (.int .i64 a0), .v (.int .i64 a1)], d] [.one (.v (.bool true))] := by
 subst hp;refine aj LEntry.B ai mixed 15 _ [4] [.tmp 4] Tryz.func270 rfl rfl rfl rfl rfl ?_;intro O r (F : LEntry.Fns) hO hr (hF : F = LEntry.F0);cbv
 repeat' first | refine And.intro ?_ ?_ | (refine aK (fun hb => ?_) (fun hb => ?_) <;> cbv)
 all_goals (subst hO hr hF; (try simp only [ah, SS, sa, az] at *); (try simp only [nc] at *); (try simp only [aF] at *))
 all_goals (try simp only [LEntry.F0] at *)
 all_goals first | trivial | exact rfl | exact absurd rfl hb | exact absurd rfl (by assumption) | (refine ⟨trivial, by assumption, ?_⟩; (try simp only [ag, Nat.add_zero]); omega) | (refine ⟨trivial, ?_⟩; (try simp only [ag, Nat.add_zero]); omega) | trace_state
namespace LEntryS
structure Fns where
 no : Unit
def F0 : Fns := ⟨()⟩
def ct (F : Fns) : CT := fun f ds => match f, ds with
 | 264, [.agg [.v (.int .i64 a0), .v (.int .i64 a1)]] => some (fun _ => True, [.agg [.v (.int .i64 a0), .v (.int .i64 a1)]])
 | 270, [.agg [.v (.int .i64 a0), .v (.int .i64 a1)], d] => some (fun _ => d = .agg [.v (.int .i64 a0), .v (.int .i64 a1)], [.one (.v (.bool true))])
 | _, _ => none
theorem am : aV Tryz.prog (ct F0) := by
 intro f ds pre res h hp;unfold ct at h;split at h <;> (try split at h) <;> cases h
 exact oS _ _ hp;exact oE _ _ _ hp
def B : TB Tryz.prog := tb am
end LEntryS
theorem mP (es : List (List L)) (left : Int) (hp : Rw [tI, tI] es /\ 0 <= left /\ left <= 1048576) : aO Tryz.prog 243 [.one (.s 2 es), .one (.v (.int .i64 left))] [.one (.v (.int .i64 (aY [es] left)))] := by
 obtain ⟨hw, h0, h1⟩ := hp;have hc : ao es = es.length := hw.cnt rfl;have hm := hw.1; unfold maxLen at hm;have hs : bu .sub .i64 left es.length = left - es.length := ce (by omega);have hn : aY [es] left = if left < es.length then -1 else left - es.length := by unfold aY; rw [cp, hc]
 refine aj LEntryS.B ai mixed 12 _ [3] [.tmp 4] Tryz.func243 rfl rfl rfl rfl rfl ?_;intro O r (F : LEntryS.Fns) hO hr (hF : F = LEntryS.F0);cbv
 repeat' first | refine And.intro ?_ ?_ | (refine aK (fun hb => ?_) (fun hb => ?_) <;> cbv)
 all_goals (subst hO hr hF; (try simp only [ah, SS, sa, az] at *); (try simp only [nc] at *); (try simp only [aF] at *))
 all_goals (try simp only [hs, LEntryS.F0] at *)
 all_goals first | trivial | (rw [hn, if_pos (by omega)]) | (rw [hn, if_neg (by omega)])
theorem mX (es : List (List L)) (hp : Rw [tI, tI] es /\ ao es <= 1048576) : aO Tryz.prog 248 [.one (.s 2 es)] [.one (.s 2 es)] := by
 obtain ⟨hw, hlim⟩ := hp;have hwf : Wf [.v (.int .i64 0), .v (.int .i64 0)] es := hw.wf;have hlen : es.length <= 1048576 := Nat.le_trans (Nat.le_add_right _ _) hlim;refine aj LEntryS.B ai mixed 23 _ [54] [.tmp 2] Tryz.func248 rfl rfl rfl rfl rfl ?_;intro O r (F : LEntryS.Fns) hO hr (hF : F = LEntryS.F0);cbv;have h0z : bD es [.v (.int .i64 0), .v (.int .i64 0)] 0 = O.rep (O.zi (O.ln es)) [.v (.int .i64 0), .v (.int .i64 0)] := by
  subst hO;rw [bV]; rfl
 refine ⟨?_, ?_, [0, 3, 4], [3], Int × List (List L), fun s => [.reg 4 (.one (.v (.int .i64 s.1))), .leaf 3 0 ⟨0, 0, none, .own (.s 2 s.2)⟩], fun s => 0 <= s.1 /\ s.1.toNat <= es.length /\ s.2 = bD es [.v (.int .i64 0), .v (.int .i64 0)] s.1.toNat, fun s => es.length - s.1.toNat, ⟨(0, O.rep (O.zi (O.ln es)) [.v (.int .i64 0), .v (.int .i64 0)]), ?_, ?_⟩, ?_⟩
 ·subst hO;exact gK (b := 16) (show es.length * _ <= _ by omega) (show es.length <= _ by omega)
 ·subst hO;exact ⟨rfl, rfl⟩
 ·exact ⟨by omega, Nat.zero_le _, h0z.symm⟩
 ·cbv
 ·rintro ⟨i, m⟩ hi;replace hi : 0 <= i /\ i.toNat <= es.length /\ m = bD es [.v (.int .i64 0), .v (.int .i64 0)] i.toNat := hi;obtain ⟨g0, g1, hm⟩ := hi;cbv
  repeat' first | refine And.intro ?_ ?_ | (refine aK (fun hb => ?_) (fun hb => ?_) <;> cbv) | (refine aa (O.ar .add .i64 i 1, O.up (.s 2 m) [(O.ad 0 i, 0)] [.v (.int .i64 (O.gi es i 0)), .v (.int .i64 (O.gi es i 1))]) ?_ ?_ ?_; rotate_left 2; focus (cbv; done))
  all_goals (subst hO hr hF; (try simp only [ah, SS, sa, az] at *); (try simp only [nc] at *); (try simp only [aF] at *))
  all_goals (try simp only [LEntryS.F0, lx, List.length_replicate, Int.toNat_natCast] at *)
  all_goals try have hlt : i < es.length := by assumption
  all_goals try rw [cJ (n := es.length) g0 hlt (by omega)]
  all_goals try have he : es.getD i.toNat [] = [.v (.int .i64 (ab es i 0)), .v (.int .i64 (ab es i 1))] := (aH hwf g0 hlt).symm
  all_goals try have hct := bF (es := es) (n := i.toNat) (by omega); rw [he] at hct; simp only [cN, dA, Nat.add_zero, Nat.zero_add] at hct
  all_goals have hle1 := av (es := es) (n := i.toNat + 1)
  all_goals have hcE : ao es = es.length + aS es := rfl
  all_goals first | exact bR hwf g0 hlt | exact ⟨g0, hlt⟩ | (rw [hm]; exact cv (by rw [aE g1]; omega) (by rw [aT (by omega)]; exact Nat.le_refl _)) | omega | (rw [show (i + 1).toNat = i.toNat + 1 from by omega, <- cu (by omega), <- hm, dr (by rw [hm, aT (by omega)]; rfl), he]) | (rw [hm, aE g1]; exact ⟨trivial, rfl⟩) | (rw [hm, show i.toNat = es.length from by omega, cr]) | trivial | exact ⟨trivial, trivial⟩ | (refine ⟨?_⟩; simp only [ag, ao, Nat.add_zero]; omega) | trace_state
theorem mH (es : List (List L)) (d : DV) (hp : d = .one (.s 2 es) /\ Rw [tI, tI] es /\ ao es <= 1099511627776) : aO Tryz.prog 260 [.one (.s 2 es), d] [.one (.v (.bool true))] := by
 obtain ⟨rfl, hw, hlim⟩ := hp;have hwf : Wf [.v (.int .i64 0), .v (.int .i64 0)] es := hw.wf;have hlen : es.length <= 1099511627776 := Nat.le_trans (Nat.le_add_right _ _) hlim;refine aj LEntryS.B ai mixed 27 _ [4] [.tmp 4] Tryz.func260 rfl rfl rfl rfl rfl ?_;intro O r (F : LEntryS.Fns) hO hr (hF : F = LEntryS.F0);cbv;refine aK (fun hb => ?_) (fun hb => ?_) <;> cbv
 ·(subst hO hr hF; (try simp only [ah, SS, sa, az] at *); (try simp only [nc] at *); (try simp only [aF] at *)); exact absurd rfl hb
 ·clear hb;refine ⟨[0, 1, 5], [], Int, fun i => [.reg 5 (.one (.v (.int .i64 i)))], fun i => 0 <= i /\ i.toNat <= es.length, fun i => es.length - i.toNat, ⟨0, ?_, ?_⟩, ?_⟩
  ·exact ⟨by omega, Nat.zero_le _⟩
  ·cbv
  ·rintro i hi;replace hi : 0 <= i /\ i.toNat <= es.length := hi;obtain ⟨g0, g1⟩ := hi;cbv
   repeat' first | refine And.intro ?_ ?_ | (refine aK (fun hb => ?_) (fun hb => ?_) <;> cbv) | (refine aa (O.ar .add .i64 i 1) ?_ ?_ ?_; rotate_left 2; focus (cbv; done))
   all_goals (subst hO hr hF; (try simp only [ah, SS, sa, az] at *); (try simp only [nc] at *); (try simp only [aF] at *))
   all_goals (try simp only [LEntryS.F0] at *)
   all_goals try have hlt : i < es.length := by assumption
   all_goals try rw [cJ (n := es.length) g0 hlt (by omega)]
   all_goals try have he : es.getD i.toNat [] = [.v (.int .i64 (ab es i 0)), .v (.int .i64 (ab es i 1))] := (aH hwf g0 hlt).symm
   all_goals try have hct := bF (es := es) (n := i.toNat) (by omega); rw [he] at hct; simp only [cN, dA, Nat.add_zero, Nat.zero_add] at hct
   all_goals have hle1 := av (es := es) (n := i.toNat + 1)
   all_goals have hcE : ao es = es.length + aS es := rfl
   all_goals first | omega | exact bR hwf g0 hlt | exact absurd rfl hb | exact absurd rfl (by assumption) | trivial | kernel_rfl | exact ⟨trivial, trivial⟩ | (refine ⟨trivial, ?_⟩; simp only [ag, ao, Nat.add_zero]; omega) | trace_state
namespace LTable
structure Fns where
 szN : List (List (List L)) -> Int -> Int
def F0 : Fns := ⟨aY⟩
def ct (F : Fns) : CT := fun f ds => match f, ds with
 | 243, [.one (.s 2 es), .one (.v (.int .i64 left))] => some (fun _ => Rw [tI, tI] es /\ 0 <= left /\ left <= 1048576, [.one (.v (.int .i64 (F.szN [es] left)))])
 | 248, [.one (.s 2 es)] => some (fun _ => Rw [tI, tI] es /\ ao es <= 1048576, [.one (.s 2 es)])
 | 260, [.one (.s 2 es), d] => some (fun _ => d = .one (.s 2 es) /\ Rw [tI, tI] es /\ ao es <= 1099511627776, [.one (.v (.bool true))])
 | _, _ => none
theorem am : aV Tryz.prog (ct F0) := by
 intro f ds pre res h hp;unfold ct at h;split at h <;> (try split at h) <;> cases h
 exact mP _ _ hp;exact mX _ hp;exact mH _ _ hp
def B : TB Tryz.prog := tb am
end LTable
theorem oP (a0 : List (List L)) (left : Int) (hp : Rw [tI, tI] a0 /\ 0 <= left /\ left <= 1048576) : aO Tryz.prog 197 [.agg [.s 2 a0], .one (.v (.int .i64 left))] [.one (.v (.int .i64 (aY [a0] left)))] := by
 obtain ⟨w0, h0, h1⟩ := hp;refine aj LTable.B ai mixed 12 _ [3] [.tmp 4] Tryz.func197 rfl rfl rfl rfl rfl ?_;intro O r (F : LTable.Fns) hO hr (hF : F = LTable.F0);cbv
 repeat' first | refine And.intro ?_ ?_ | (refine aK (fun hb => ?_) (fun hb => ?_) <;> cbv)
 all_goals (subst hO hr hF; (try simp only [ah, SS, sa, az] at *); (try simp only [nc] at *); (try simp only [aF] at *))
 all_goals (try simp only [LTable.F0] at *)
 all_goals (try simp (disch := assumption) only [dY, List.cons_append, List.nil_append] at *)
 all_goals first | trivial | exact rfl | (refine ⟨by assumption, by omega, by first | omega | exact Int.le_trans (bM (by assumption)) h1⟩) | (rw [dm (by assumption)]) | trace_state
theorem oY (a0 : List (List L)) (hp : Rw [tI, tI] a0 /\ ag [a0] <= 1048576) : aO Tryz.prog 211 [.agg [.s 2 a0]] [.agg [.s 2 a0]] := by
 obtain ⟨w0, hlim⟩ := hp;simp only [ag, Nat.add_zero] at hlim;refine aj LTable.B ai mixed 9 _ [56] [.cell 2 56] Tryz.func211 rfl rfl rfl rfl rfl ?_;intro O r (F : LTable.Fns) hO hr (hF : F = LTable.F0);cbv
 repeat' first | refine And.intro ?_ ?_ | (refine aK (fun hb => ?_) (fun hb => ?_) <;> cbv)
 all_goals (subst hO hr hF; (try simp only [ah, SS, sa, az] at *); (try simp only [nc] at *); (try simp only [aF] at *))
 all_goals (try simp only [LTable.F0] at *)
 all_goals first | trivial | exact rfl | exact ⟨trivial, trivial⟩ | exact ⟨rfl, rfl⟩ | (refine ⟨by assumption, ?_⟩; (try simp only [ag, Nat.add_zero]); omega) | ((try simp only [ag, Nat.add_zero]); omega) | trace_state
theorem oK (a0 : List (List L)) (d : DV) (hp : d = .agg [.s 2 a0] /\ Rw [tI, tI] a0 /\ ag [a0] <= 1099511627776) : aO Tryz.prog 230 [.agg [.s 2 a0], d] [.one (.v (.bool true))] := by
 obtain ⟨rfl, w0, hlim⟩ := hp;simp only [ag, Nat.add_zero] at hlim;refine aj LTable.B ai mixed 11 _ [4] [.tmp 4] Tryz.func230 rfl rfl rfl rfl rfl ?_;intro O r (F : LTable.Fns) hO hr (hF : F = LTable.F0);cbv
 repeat' first | refine And.intro ?_ ?_ | (refine aK (fun hb => ?_) (fun hb => ?_) <;> cbv)
 all_goals (subst hO hr hF; (try simp only [ah, SS, sa, az] at *); (try simp only [nc] at *); (try simp only [aF] at *))
 all_goals (try simp only [LTable.F0] at *)
 all_goals first | trivial | exact rfl | exact absurd rfl hb | exact absurd rfl (by assumption) | (refine ⟨trivial, by assumption, ?_⟩; (try simp only [ag, Nat.add_zero]); omega) | (refine ⟨trivial, ?_⟩; (try simp only [ag, Nat.add_zero]); omega) | trace_state
namespace LMachine
structure Fns where
 szN : List (List (List L)) -> Int -> Int
def F0 : Fns := ⟨aY⟩
def ct (F : Fns) : CT := fun f ds => match f, ds with
 | 196, [.agg [.s 1 a0, .s 1 a1], .one (.v (.int .i64 left))] => some (fun _ => Rw [.sl [tI]] a0 /\ Rw [tB] a1 /\ 0 <= left /\ left <= 1048576, [.one (.v (.int .i64 (F.szN [a0, a1] left)))])
 | 210, [.agg [.s 1 a0, .s 1 a1]] => some (fun _ => Rw [.sl [tI]] a0 /\ Rw [tB] a1 /\ ag [a0, a1] <= 1048576, [.agg [.s 1 a0, .s 1 a1]])
 | 229, [.agg [.s 1 a0, .s 1 a1], d] => some (fun _ => d = .agg [.s 1 a0, .s 1 a1] /\ Rw [.sl [tI]] a0 /\ Rw [tB] a1 /\ ag [a0, a1] <= 1099511627776, [.one (.v (.bool true))])
 | 197, [.agg [.s 2 a0], .one (.v (.int .i64 left))] => some (fun _ => Rw [tI, tI] a0 /\ 0 <= left /\ left <= 1048576, [.one (.v (.int .i64 (F.szN [a0] left)))])
 | 211, [.agg [.s 2 a0]] => some (fun _ => Rw [tI, tI] a0 /\ ag [a0] <= 1048576, [.agg [.s 2 a0]])
 | 230, [.agg [.s 2 a0], d] => some (fun _ => d = .agg [.s 2 a0] /\ Rw [tI, tI] a0 /\ ag [a0] <= 1099511627776, [.one (.v (.bool true))])
 | _, _ => none
theorem am : aV Tryz.prog (ct F0) := by
 intro f ds pre res h hp;unfold ct at h;split at h <;> (try split at h) <;> cases h
 exact mQ _ _ _ hp;exact mY _ _ hp;exact mI _ _ _ hp;exact oP _ _ hp;exact oY _ hp;exact oK _ _ hp
def B : TB Tryz.prog := tb am
end LMachine
theorem kV (a0 a1 a2 : List (List L)) (left : Int) (hp : Rw [.sl [tI]] a0 /\ Rw [tB] a1 /\ Rw [tI, tI] a2 /\ 0 <= left /\ left <= 1048576) : aO Tryz.prog 111 [.agg [.s 1 a0, .s 1 a1, .s 2 a2], .one (.v (.int .i64 left))] [.one (.v (.int .i64 (aY [a0, a1, a2] left)))] := by
 obtain ⟨w0, w1, w2, h0, h1⟩ := hp;refine aj LMachine.B ai mixed 18 _ [3] [.tmp 4] Tryz.func111 rfl rfl rfl rfl rfl ?_;intro O r (F : LMachine.Fns) hO hr (hF : F = LMachine.F0);cbv
 repeat' first | refine And.intro ?_ ?_ | (refine aK (fun hb => ?_) (fun hb => ?_) <;> cbv)
 all_goals (subst hO hr hF; (try simp only [ah, SS, sa, az] at *); (try simp only [nc] at *); (try simp only [aF] at *))
 all_goals (try simp only [LMachine.F0] at *)
 all_goals (try simp (disch := assumption) only [dY, List.cons_append, List.nil_append] at *)
 all_goals first | trivial | exact rfl | (refine ⟨by assumption, by omega, by first | omega | exact Int.le_trans (bM (by assumption)) h1⟩) | (refine ⟨by assumption, by assumption, by omega, by first | omega | exact Int.le_trans (bM (by assumption)) h1⟩) | (refine ⟨by assumption, by assumption, by assumption, by omega, by first | omega | exact Int.le_trans (bM (by assumption)) h1⟩) | (rw [dm (by assumption)]) | exact congrArg (fun x => [DV.one (L.v (Value.int IntKind.i64 x))]) (bN (a := [a0]) (b := [a1, a2]) (by assumption)).symm | exact congrArg (fun x => [DV.one (L.v (Value.int IntKind.i64 x))]) (bN (a := [a0, a1]) (b := [a2]) (by assumption)).symm | trace_state
theorem kW (a0 a1 a2 : List (List L)) (hp : Rw [.sl [tI]] a0 /\ Rw [tB] a1 /\ Rw [tI, tI] a2 /\ ag [a0, a1, a2] <= 1048576) : aO Tryz.prog 131 [.agg [.s 1 a0, .s 1 a1, .s 2 a2]] [.agg [.s 1 a0, .s 1 a1, .s 2 a2]] := by
 obtain ⟨w0, w1, w2, hlim⟩ := hp;simp only [ag, Nat.add_zero] at hlim;refine aj LMachine.B ai mixed 13 _ [58] [.cell 2 58] Tryz.func131 rfl rfl rfl rfl rfl ?_;intro O r (F : LMachine.Fns) hO hr (hF : F = LMachine.F0);cbv
 repeat' first | refine And.intro ?_ ?_ | (refine aK (fun hb => ?_) (fun hb => ?_) <;> cbv)
 all_goals (subst hO hr hF; (try simp only [ah, SS, sa, az] at *); (try simp only [nc] at *); (try simp only [aF] at *))
 all_goals (try simp only [LMachine.F0] at *)
 all_goals first | trivial | exact rfl | exact ⟨trivial, trivial⟩ | exact ⟨rfl, rfl⟩ | (refine ⟨by assumption, ?_⟩; (try simp only [ag, Nat.add_zero]); omega) | (refine ⟨by assumption, by assumption, ?_⟩; (try simp only [ag, Nat.add_zero]); omega) | (refine ⟨by assumption, by assumption, by assumption, ?_⟩; (try simp only [ag, Nat.add_zero]); omega) | ((try simp only [ag, Nat.add_zero]); omega) | trace_state
theorem kU (a0 a1 a2 : List (List L)) (d : DV) (hp : d = .agg [.s 1 a0, .s 1 a1, .s 2 a2] /\ Rw [.sl [tI]] a0 /\ Rw [tB] a1 /\ Rw [tI, tI] a2 /\ ag [a0, a1, a2] <= 1099511627776) : aO Tryz.prog 156 [.agg [.s 1 a0, .s 1 a1, .s 2 a2], d] [.one (.v (.bool true))] := by
 obtain ⟨rfl, w0, w1, w2, hlim⟩ := hp;simp only [ag, Nat.add_zero] at hlim;refine aj LMachine.B ai mixed 17 _ [4] [.tmp 4] Tryz.func156 rfl rfl rfl rfl rfl ?_;intro O r (F : LMachine.Fns) hO hr (hF : F = LMachine.F0);cbv
 repeat' first | refine And.intro ?_ ?_ | (refine aK (fun hb => ?_) (fun hb => ?_) <;> cbv)
 all_goals (subst hO hr hF; (try simp only [ah, SS, sa, az] at *); (try simp only [nc] at *); (try simp only [aF] at *))
 all_goals (try simp only [LMachine.F0] at *)
 all_goals first | trivial | exact rfl | exact absurd rfl hb | exact absurd rfl (by assumption) | (refine ⟨trivial, by assumption, ?_⟩; (try simp only [ag, Nat.add_zero]); omega) | (refine ⟨trivial, by assumption, by assumption, ?_⟩; (try simp only [ag, Nat.add_zero]); omega) | (refine ⟨trivial, by assumption, by assumption, by assumption, ?_⟩; (try simp only [ag, Nat.add_zero]); omega) | (refine ⟨trivial, ?_⟩; (try simp only [ag, Nat.add_zero]); omega) | trace_state
namespace LKernel
structure Fns where
 szN : List (List (List L)) -> Int -> Int
def F0 : Fns := ⟨aY⟩
def ct (F : Fns) : CT := fun f ds => match f, ds with
 | 111, [.agg [.s 1 a0, .s 1 a1, .s 2 a2], .one (.v (.int .i64 left))] => some (fun _ => Rw [.sl [tI]] a0 /\ Rw [tB] a1 /\ Rw [tI, tI] a2 /\ 0 <= left /\ left <= 1048576, [.one (.v (.int .i64 (F.szN [a0, a1, a2] left)))])
 | 131, [.agg [.s 1 a0, .s 1 a1, .s 2 a2]] => some (fun _ => Rw [.sl [tI]] a0 /\ Rw [tB] a1 /\ Rw [tI, tI] a2 /\ ag [a0, a1, a2] <= 1048576, [.agg [.s 1 a0, .s 1 a1, .s 2 a2]])
 | 156, [.agg [.s 1 a0, .s 1 a1, .s 2 a2], d] => some (fun _ => d = .agg [.s 1 a0, .s 1 a1, .s 2 a2] /\ Rw [.sl [tI]] a0 /\ Rw [tB] a1 /\ Rw [tI, tI] a2 /\ ag [a0, a1, a2] <= 1099511627776, [.one (.v (.bool true))])
 | 112, [.one (.s 1 es), .one (.v (.int .i64 left))] => some (fun _ => Rw [tI] es /\ 0 <= left /\ left <= 1048576, [.one (.v (.int .i64 (F.szN [es] left)))])
 | 132, [.one (.s 1 es)] => some (fun _ => Rw [tI] es /\ ao es <= 1048576, [.one (.s 1 es)])
 | 31, [.one (.s 1 es), d] => some (fun _ => d = .one (.s 1 es) /\ Rw [tI] es /\ ao es <= 1099511627776, [.one (.v (.bool true))])
 | _, _ => none
theorem am : aV Tryz.prog (ct F0) := by
 intro f ds pre res h hp;unfold ct at h;split at h <;> (try split at h) <;> cases h
 exact kV _ _ _ _ hp;exact kW _ _ _ hp;exact kU _ _ _ _ hp;exact fm _ _ hp;exact fq _ hp;exact fj _ _ hp
def B : TB Tryz.prog := tb am
end LKernel
theorem mR (a0 a1 a2 : List (List L)) (a3 : Int) (a4 : List (List L)) (left : Int) (hp : Rw [.sl [tI]] a0 /\ Rw [tB] a1 /\ Rw [tI, tI] a2 /\ Rw [tI] a4 /\ 0 <= left /\ left <= 1048576) : aO Tryz.prog 35 [.agg [.s 1 a0, .s 1 a1, .s 2 a2, .v (.int .i64 a3), .s 1 a4], .one (.v (.int .i64 left))] [.one (.v (.int .i64 (aY [a0, a1, a2, a4] left)))] := by
 obtain ⟨w0, w1, w2, w3, h0, h1⟩ := hp;refine aj LKernel.B ai mixed 18 _ [3] [.tmp 4] Tryz.func35 rfl rfl rfl rfl rfl ?_;intro O r (F : LKernel.Fns) hO hr (hF : F = LKernel.F0);cbv
 repeat' first | refine And.intro ?_ ?_ | (refine aK (fun hb => ?_) (fun hb => ?_) <;> cbv)
 all_goals (subst hO hr hF; (try simp only [ah, SS, sa, az] at *); (try simp only [nc] at *); (try simp only [aF] at *))
 all_goals (try simp only [LKernel.F0] at *)
 all_goals (try simp (disch := assumption) only [dY, List.cons_append, List.nil_append] at *)
 all_goals first | trivial | exact rfl | (refine ⟨by assumption, by omega, by first | omega | exact Int.le_trans (bM (by assumption)) h1⟩) | (refine ⟨by assumption, by assumption, by omega, by first | omega | exact Int.le_trans (bM (by assumption)) h1⟩) | (refine ⟨by assumption, by assumption, by assumption, by omega, by first | omega | exact Int.le_trans (bM (by assumption)) h1⟩) | (refine ⟨by assumption, by assumption, by assumption, by assumption, by omega, by first | omega | exact Int.le_trans (bM (by assumption)) h1⟩) | (rw [dm (by assumption)]) | exact congrArg (fun x => [DV.one (L.v (Value.int IntKind.i64 x))]) (bN (a := [a0]) (b := [a1, a2, a4]) (by assumption)).symm | exact congrArg (fun x => [DV.one (L.v (Value.int IntKind.i64 x))]) (bN (a := [a0, a1]) (b := [a2, a4]) (by assumption)).symm | exact congrArg (fun x => [DV.one (L.v (Value.int IntKind.i64 x))]) (bN (a := [a0, a1, a2]) (b := [a4]) (by assumption)).symm | trace_state
theorem mZ (a0 a1 a2 : List (List L)) (a3 : Int) (a4 : List (List L)) (hp : Rw [.sl [tI]] a0 /\ Rw [tB] a1 /\ Rw [tI, tI] a2 /\ Rw [tI] a4 /\ ag [a0, a1, a2, a4] <= 1048576) : aO Tryz.prog 46 [.agg [.s 1 a0, .s 1 a1, .s 2 a2, .v (.int .i64 a3), .s 1 a4]] [.agg [.s 1 a0, .s 1 a1, .s 2 a2, .v (.int .i64 a3), .s 1 a4]] := by
 obtain ⟨w0, w1, w2, w3, hlim⟩ := hp;simp only [ag, Nat.add_zero] at hlim;refine aj LKernel.B ai mixed 16 _ [60] [.cell 2 60] Tryz.func46 rfl rfl rfl rfl rfl ?_;intro O r (F : LKernel.Fns) hO hr (hF : F = LKernel.F0);cbv
 repeat' first | refine And.intro ?_ ?_ | (refine aK (fun hb => ?_) (fun hb => ?_) <;> cbv)
 all_goals (subst hO hr hF; (try simp only [ah, SS, sa, az] at *); (try simp only [nc] at *); (try simp only [aF] at *))
 all_goals (try simp only [LKernel.F0] at *)
 all_goals first | trivial | exact rfl | exact ⟨trivial, trivial⟩ | exact ⟨rfl, rfl⟩ | (refine ⟨by assumption, ?_⟩; (try simp only [ag, Nat.add_zero]); omega) | (refine ⟨by assumption, by assumption, ?_⟩; (try simp only [ag, Nat.add_zero]); omega) | (refine ⟨by assumption, by assumption, by assumption, ?_⟩; (try simp only [ag, Nat.add_zero]); omega) | (refine ⟨by assumption, by assumption, by assumption, by assumption, ?_⟩; (try simp only [ag, Nat.add_zero]); omega) | ((try simp only [ag, Nat.add_zero]); omega) | trace_state
theorem mJ (a0 a1 a2 : List (List L)) (a3 : Int) (a4 : List (List L)) (d : DV) (hp : d = .agg [.s 1 a0, .s 1 a1, .s 2 a2, .v (.int .i64 a3), .s 1 a4] /\ Rw [.sl [tI]] a0 /\ Rw [tB] a1 /\ Rw [tI, tI] a2 /\ Rw [tI] a4 /\ ag [a0, a1, a2, a4] <= 1099511627776) : aO Tryz.prog 57 [.agg [.s 1 a0, .s 1 a1, .s 2 a2, .v (.int .i64 a3), .s 1 a4], d] [.one (.v (.bool true))] := by
 obtain ⟨rfl, w0, w1, w2, w3, hlim⟩ := hp;simp only [ag, Nat.add_zero] at hlim;refine aj LKernel.B ai mixed 22 _ [4] [.tmp 4] Tryz.func57 rfl rfl rfl rfl rfl ?_;intro O r (F : LKernel.Fns) hO hr (hF : F = LKernel.F0);cbv
 repeat' first | refine And.intro ?_ ?_ | (refine aK (fun hb => ?_) (fun hb => ?_) <;> cbv)
 all_goals (subst hO hr hF; (try simp only [ah, SS, sa, az] at *); (try simp only [nc] at *); (try simp only [aF] at *))
 all_goals (try simp only [LKernel.F0] at *)
 all_goals first | trivial | exact rfl | exact absurd rfl hb | exact absurd rfl (by assumption) | (refine ⟨trivial, by assumption, ?_⟩; (try simp only [ag, Nat.add_zero]); omega) | (refine ⟨trivial, by assumption, by assumption, ?_⟩; (try simp only [ag, Nat.add_zero]); omega) | (refine ⟨trivial, by assumption, by assumption, by assumption, ?_⟩; (try simp only [ag, Nat.add_zero]); omega) | (refine ⟨trivial, by assumption, by assumption, by assumption, by assumption, ?_⟩; (try simp only [ag, Nat.add_zero]); omega) | (refine ⟨trivial, ?_⟩; (try simp only [ag, Nat.add_zero]); omega) | trace_state
end Go.V