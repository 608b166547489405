/-
  Contracts, by evaluation.
-/import Derived.Test.YticfhgfgobafbaaGreatS9
import Derived.Test.YticfhgfgobafbaaGreatVE
set_option linter.all false
namespace Go.V
open Go Go.Proofs
set_option maxRecDepth 1000000
set_option maxHeartbeats 8000000
namespace LIntS
structure Fns where
 no : Unit
def F0 : Fns := ⟨()⟩
def B : TB Tryz.prog := {Φ := Fns, F0 := F0}
end LIntS
theorem c_laws_szIntS (es : List (List L)) (left : Int) (hp : Rw [tI] es /\ 0 <= left /\ left <= 1048576) : Ctr Tryz.prog 91 [.one (.s 1 es), .one (.v (.int .i64 left))] [.one (.v (.int .i64 (szN0 [es] left)))] := by
 obtain ⟨hw, h0, h1⟩ := hp
 have hc : cntE es = es.length := hw.cnt rfl
 have hm := hw.1; unfold maxLen at hm
 have hs : arI .sub .i64 left es.length = left - es.length := sub64 (by omega)
 have hn : szN0 [es] left = if left < es.length then -1 else left - es.length := by unfold szN0; rw [cntRs_one, hc]
 refine ctr_b LIntS.B tabOk mixed 12 _ [3] [.tmp 4] Tryz.func91 rfl rfl rfl rfl rfl ?_
 intro O r (F : LIntS.Fns) hO hr (hF : F = LIntS.F0)
 cbv
 repeat' first | refine And.intro ?_ ?_ | (refine cbi (fun hb => ?_) (fun hb => ?_) <;> cbv)
 all_goals (subst hO hr hF; (try simp only [stdO, SS, sa, az] at *); (try simp only [nc] at *); (try simp only [onc] at *))
 all_goals (try simp only [hs, LIntS.F0] at *)
 all_goals first | trivial | (rw [hn, if_pos (by omega)]) | (rw [hn, if_neg (by omega)])
theorem c_laws_toIntS (es : List (List L)) (hp : Rw [tI] es /\ cntE es <= 1048576) : Ctr Tryz.prog 100 [.one (.s 1 es)] [.one (.s 1 es)] := by
 obtain ⟨hw, hlim⟩ := hp
 have hwf : Wf [.v (.int .i64 0)] es := hw.wf
 have hlen : es.length <= 1048576 := Nat.le_trans (Nat.le_add_right _ _) hlim
 refine ctr_b LIntS.B tabOk mixed 22 _ [31] [.tmp 2] Tryz.func100 rfl rfl rfl rfl rfl ?_
 intro O r (F : LIntS.Fns) hO hr (hF : F = LIntS.F0)
 cbv
 have h0z : fillR es [.v (.int .i64 0)] 0 = O.rep (O.zi (O.ln es)) [.v (.int .i64 0)] := by
  subst hO
  rw [fillR_zero]; rfl
 refine ⟨?_, ?_, [0, 3, 4], [3], Int × List (List L), fun s => [.reg 4 (.one (.v (.int .i64 s.1))), .leaf 3 0 ⟨0, 0, none, .own (.s 1 s.2)⟩], fun s => 0 <= s.1 /\ s.1.toNat <= es.length /\ s.2 = fillR es [.v (.int .i64 0)] s.1.toNat, fun s => es.length - s.1.toNat, ⟨(0, O.rep (O.zi (O.ln es)) [.v (.int .i64 0)]), ?_, ?_⟩, ?_⟩
 ·subst hO
  exact mk_ok (b := 8) (show es.length * _ <= _ by omega) (show es.length <= _ by omega)
 ·subst hO
  exact ⟨rfl, rfl⟩
 ·exact ⟨by omega, Nat.zero_le _, h0z.symm⟩
 ·cbv
 ·rintro ⟨i, m⟩ hi
  replace hi : 0 <= i /\ i.toNat <= es.length /\ m = fillR es [.v (.int .i64 0)] i.toNat := hi
  obtain ⟨g0, g1, hm⟩ := hi
  cbv
  repeat' first | refine And.intro ?_ ?_ | (refine cbi (fun hb => ?_) (fun hb => ?_) <;> cbv) | (refine loop_step (O.ar .add .i64 i 1, O.up (.s 1 m) [(O.ad 0 i, 0)] [.v (.int .i64 (O.gi es i 0))]) ?_ ?_ ?_; rotate_left 2; focus (cbv; done))
  all_goals (subst hO hr hF; (try simp only [stdO, SS, sa, az] at *); (try simp only [nc] at *); (try simp only [onc] at *))
  all_goals (try simp only [LIntS.F0, repI, List.length_replicate, Int.toNat_natCast] at *)
  all_goals try have hlt : i < es.length := by assumption
  all_goals try rw [inc64 (n := es.length) g0 hlt (by omega)]
  all_goals try have he : es.getD i.toNat [] = [.v (.int .i64 (giI es i 0))] := (etaE_whole hwf g0 hlt).symm
  all_goals try have hct := cntE_at (es := es) (n := i.toNat) (by omega); rw [he] at hct; simp only [cntR, cntL, Nat.add_zero, Nat.zero_add] at hct
  all_goals have hle1 := cntEs_take_le (es := es) (n := i.toNat + 1)
  all_goals have hcE : cntE es = es.length + cntEs es := rfl
  all_goals first | exact row_ro hwf g0 hlt | exact ⟨g0, hlt⟩ | (rw [hm]; exact getR_some (by rw [fillR_length g1]; omega) (by rw [fillR_getD (by omega)]; exact Nat.le_refl _)) | omega | (rw [show (i + 1).toNat = i.toNat + 1 from by omega, <- fillR_set (by omega), <- hm, upI_one (by rw [hm, fillR_getD (by omega)]; rfl), he]) | (rw [hm, fillR_length g1]; exact ⟨trivial, rfl⟩) | (rw [hm, show i.toNat = es.length from by omega, fillR_all]) | trivial | exact ⟨trivial, trivial⟩ | (refine ⟨?_⟩; simp only [cntRs, cntE, Nat.add_zero]; omega) | trace_state
theorem c_laws_eqIntS (es : List (List L)) (d : DV) (hp : d = .one (.s 1 es) /\ Rw [tI] es /\ cntE es <= 1099511627776) : Ctr Tryz.prog 9 [.one (.s 1 es), d] [.one (.v (.bool true))] := by
 obtain ⟨rfl, hw, hlim⟩ := hp
 have hwf : Wf [.v (.int .i64 0)] es := hw.wf
 have hlen : es.length <= 1099511627776 := Nat.le_trans (Nat.le_add_right _ _) hlim
 refine ctr_b LIntS.B tabOk mixed 26 _ [4] [.tmp 4] Tryz.func9 rfl rfl rfl rfl rfl ?_
 intro O r (F : LIntS.Fns) hO hr (hF : F = LIntS.F0)
 cbv
 refine cbi (fun hb => ?_) (fun hb => ?_) <;> cbv
 ·(subst hO hr hF; (try simp only [stdO, SS, sa, az] at *); (try simp only [nc] at *); (try simp only [onc] at *)); exact absurd rfl hb
 ·clear hb
  refine ⟨[0, 1, 5], [], Int, fun i => [.reg 5 (.one (.v (.int .i64 i)))], fun i => 0 <= i /\ i.toNat <= es.length, fun i => es.length - i.toNat, ⟨0, ?_, ?_⟩, ?_⟩
  ·exact ⟨by omega, Nat.zero_le _⟩
  ·cbv
  ·rintro i hi
   replace hi : 0 <= i /\ i.toNat <= es.length := hi
   obtain ⟨g0, g1⟩ := hi
   cbv
   repeat' first | refine And.intro ?_ ?_ | (refine cbi (fun hb => ?_) (fun hb => ?_) <;> cbv) | (refine loop_step (O.ar .add .i64 i 1) ?_ ?_ ?_; rotate_left 2; focus (cbv; done))
   all_goals (subst hO hr hF; (try simp only [stdO, SS, sa, az] at *); (try simp only [nc] at *); (try simp only [onc] at *))
   all_goals (try simp only [LIntS.F0] at *)
   all_goals try have hlt : i < es.length := by assumption
   all_goals try rw [inc64 (n := es.length) g0 hlt (by omega)]
   all_goals try have he : es.getD i.toNat [] = [.v (.int .i64 (giI es i 0))] := (etaE_whole hwf g0 hlt).symm
   all_goals try have hct := cntE_at (es := es) (n := i.toNat) (by omega); rw [he] at hct; simp only [cntR, cntL, Nat.add_zero, Nat.zero_add] at hct
   all_goals have hle1 := cntEs_take_le (es := es) (n := i.toNat + 1)
   all_goals have hcE : cntE es = es.length + cntEs es := rfl
   all_goals first | omega | exact row_ro hwf g0 hlt | exact absurd rfl hb | exact absurd rfl (by assumption) | trivial | kernel_rfl | exact ⟨trivial, trivial⟩ | (refine ⟨trivial, ?_⟩; simp only [cntRs, cntE, Nat.add_zero]; omega) | trace_state
namespace LIntSS
structure Fns where
 szN : List (List (List L)) -> Int -> Int
def F0 : Fns := ⟨szN0⟩
def ct (F : Fns) : CT := fun f ds => match f with
 | 91 => match ds with
   | [.one (.s 1 es), .one (.v (.int .i64 left))] => some (fun _ => Rw [tI] es /\ 0 <= left /\ left <= 1048576, [.one (.v (.int .i64 (F.szN [es] left)))])
   | _ => none
 | 100 => match ds with
   | [.one (.s 1 es)] => some (fun _ => Rw [tI] es /\ cntE es <= 1048576, [.one (.s 1 es)])
   | _ => none
 | 9 => match ds with
   | [.one (.s 1 es), d] => some (fun _ => d = .one (.s 1 es) /\ Rw [tI] es /\ cntE es <= 1099511627776, [.one (.v (.bool true))])
   | _ => none
 | _ => none
theorem ct_ok : CTok Tryz.prog (ct F0) := by
 intro f ds pre res h hp
 unfold ct at h
 split at h <;> (try split at h) <;> cases h
 exact c_laws_szIntS _ _ hp
 exact c_laws_toIntS _ hp
 exact c_laws_eqIntS _ _ hp
def B : TB Tryz.prog := tb ct_ok
end LIntSS
theorem c_laws_szIntSS (es : List (List L)) (left : Int) (hp : Rw [.sl [tI]] es /\ 0 <= left /\ left <= 1048576) : Ctr Tryz.prog 94 [.one (.s 1 es), .one (.v (.int .i64 left))] [.one (.v (.int .i64 (szN0 [es] left)))] := by
 obtain ⟨hw, h0, h1⟩ := hp
 have hwf : Wf [.s 1 []] es := hw.wf
 have hm := hw.1; unfold maxLen at hm
 have hs : arI .sub .i64 left es.length = left - es.length := sub64 (by omega)
 have hcE : cntE es = es.length + cntEs es := rfl
 have hn : szN0 [es] left = if left < cntE es then -1 else left - cntE es := by unfold szN0; rw [cntRs_one]
 refine ctr_b LIntSS.B tabOk mixed 27 _ [3] [.tmp 4] Tryz.func94 rfl rfl rfl rfl rfl ?_
 intro O r (F : LIntSS.Fns) hO hr (hF : F = LIntSS.F0)
 cbv
 refine cbi (fun hb => ?_) (fun hb => ?_) <;> cbv
 ·repeat' first | refine And.intro ?_ ?_ | (refine cbi (fun hb => ?_) (fun hb => ?_) <;> cbv)
  all_goals (subst hO hr hF; (try simp only [stdO, SS, sa, az] at *); (try simp only [nc] at *); (try simp only [onc] at *))
  all_goals (try simp only [hs, LIntSS.F0] at *)
  all_goals first | trivial | (rw [hn, if_pos (by omega)]) | trace_state
 have hb0 : 0 <= left - es.length := by
  (subst hO hr hF; (try simp only [stdO, SS, sa, az] at *); (try simp only [nc] at *); (try simp only [onc] at *))
  rw [hs] at hb
  exact hb
 clear hb
 refine ⟨[0, 1, 5], [], Int × Int, fun s => match s with | (i, l) => [.reg 5 (.one (.v (.int .i64 i))), .reg 1 (.one (.v (.int .i64 l)))], fun s => 0 <= s.1 /\ s.1.toNat <= es.length /\ 0 <= s.2 /\ s.2 = left - es.length - cntEs (es.take s.1.toNat), fun s => es.length - s.1.toNat, ⟨(0, O.ar .sub .i64 left (O.zi (O.ln es))), ?_, ?_⟩, ?_⟩
 ·(subst hO hr hF; (try simp only [stdO, SS, sa, az] at *); (try simp only [nc] at *); (try simp only [onc] at *))
  rw [hs]
  exact ⟨by omega, Nat.zero_le _, hb0, by simp [cntEs]⟩
 ·cbv
 ·rintro ⟨i, l⟩ hi
  replace hi : 0 <= i /\ i.toNat <= es.length /\ 0 <= l /\ l = left - es.length - cntEs (es.take i.toNat) := hi
  obtain ⟨g0, g1, g2, g3⟩ := hi
  cbv
  repeat' first | refine And.intro ?_ ?_ | (refine cbi (fun hb => ?_) (fun hb => ?_) <;> cbv) | (refine loop_step (O.ar .add .i64 i 1, F.szN [O.gs es i 0] l) ?_ ?_ ?_; rotate_left 2; focus (cbv; done))
  all_goals (subst hO hr hF; (try simp only [stdO, SS, sa, az] at *); (try simp only [nc] at *); (try simp only [onc] at *))
  all_goals try have hlt : i < es.length := by assumption
  all_goals try rw [inc64 (n := es.length) g0 hlt (by omega)]
  all_goals (try simp only [LIntSS.F0] at *)
  all_goals try have he : es.getD i.toNat [] = [.s 1 (gsI es i 0)] := (etaE_whole hwf g0 hlt).symm
  all_goals try have hr0 : Rw [tI] (gsI es i 0) := Rw.sub (fs := [.sl [tI]]) hw (by omega) rfl
  all_goals try have hct := cntE_at (es := es) (n := i.toNat) (by omega); rw [he] at hct; simp only [cntR, cntL, Nat.add_zero, Nat.zero_add] at hct
  all_goals have hle := cntEs_take_le (es := es) (n := i.toNat)
  all_goals have hle1 := cntEs_take_le (es := es) (n := i.toNat + 1)
  all_goals have hsz := szN_neg (a := [gsI es i 0]) (left := l)
  all_goals have hsz2 : 0 <= szN0 [gsI es i 0] l -> szN0 [gsI es i 0] l = l - cntRs [gsI es i 0] := szN_pos
  all_goals simp only [cntRs, cntE, Nat.add_zero] at hsz hsz2
  all_goals first | exact row_ro hwf g0 hlt | exact ⟨hr0, by omega, by omega⟩ | trivial | omega | (rw [hn, if_pos]; omega) | (rw [hn, if_neg (by rw [show i.toNat = es.length from by omega, List.take_length] at g3; omega), show l = left - cntE es from by rw [show i.toNat = es.length from by omega, List.take_length] at g3; omega]) | (rw [show (i + 1).toNat = i.toNat + 1 from by omega, hct]; omega) | trace_state
theorem c_laws_toIntSS (es : List (List L)) (hp : Rw [.sl [tI]] es /\ cntE es <= 1048576) : Ctr Tryz.prog 107 [.one (.s 1 es)] [.one (.s 1 es)] := by
 obtain ⟨hw, hlim⟩ := hp
 have hwf : Wf [.s 1 []] es := hw.wf
 have hlen : es.length <= 1048576 := Nat.le_trans (Nat.le_add_right _ _) hlim
 refine ctr_b LIntSS.B tabOk mixed 23 _ [22] [.tmp 2] Tryz.func107 rfl rfl rfl rfl rfl ?_
 intro O r (F : LIntSS.Fns) hO hr (hF : F = LIntSS.F0)
 cbv
 have h0z : fillR es [.s 1 []] 0 = O.rep (O.zi (O.ln es)) [.s 1 []] := by
  subst hO
  rw [fillR_zero]; rfl
 refine ⟨?_, ?_, [0, 3, 4], [3], Int × List (List L), fun s => [.reg 4 (.one (.v (.int .i64 s.1))), .leaf 3 0 ⟨0, 0, none, .own (.s 1 s.2)⟩], fun s => 0 <= s.1 /\ s.1.toNat <= es.length /\ s.2 = fillR es [.s 1 []] s.1.toNat, fun s => es.length - s.1.toNat, ⟨(0, O.rep (O.zi (O.ln es)) [.s 1 []]), ?_, ?_⟩, ?_⟩
 ·subst hO
  exact mk_ok (b := 24) (show es.length * _ <= _ by omega) (show es.length <= _ by omega)
 ·subst hO
  exact ⟨rfl, rfl⟩
 ·exact ⟨by omega, Nat.zero_le _, h0z.symm⟩
 ·cbv
 ·rintro ⟨i, m⟩ hi
  replace hi : 0 <= i /\ i.toNat <= es.length /\ m = fillR es [.s 1 []] i.toNat := hi
  obtain ⟨g0, g1, hm⟩ := hi
  cbv
  repeat' first | refine And.intro ?_ ?_ | (refine cbi (fun hb => ?_) (fun hb => ?_) <;> cbv) | (refine loop_step (O.ar .add .i64 i 1, O.up (.s 1 m) [(O.ad 0 i, 0)] [.s 1 (O.gs es i 0)]) ?_ ?_ ?_; rotate_left 2; focus (cbv; done))
  all_goals (subst hO hr hF; (try simp only [stdO, SS, sa, az] at *); (try simp only [nc] at *); (try simp only [onc] at *))
  all_goals (try simp only [LIntSS.F0, repI, List.length_replicate, Int.toNat_natCast] at *)
  all_goals try have hlt : i < es.length := by assumption
  all_goals try rw [inc64 (n := es.length) g0 hlt (by omega)]
  all_goals try have he : es.getD i.toNat [] = [.s 1 (gsI es i 0)] := (etaE_whole hwf g0 hlt).symm
  all_goals try have hr0 : Rw [tI] (gsI es i 0) := Rw.sub (fs := [.sl [tI]]) hw (by omega) rfl
  all_goals try have hct := cntE_at (es := es) (n := i.toNat) (by omega); rw [he] at hct; simp only [cntR, cntL, Nat.add_zero, Nat.zero_add] at hct
  all_goals have hle1 := cntEs_take_le (es := es) (n := i.toNat + 1)
  all_goals have hcE : cntE es = es.length + cntEs es := rfl
  all_goals first | exact row_ro hwf g0 hlt | exact ⟨g0, hlt⟩ | (rw [hm]; exact getR_some (by rw [fillR_length g1]; omega) (by rw [fillR_getD (by omega)]; exact Nat.le_refl _)) | omega | (rw [show (i + 1).toNat = i.toNat + 1 from by omega, <- fillR_set (by omega), <- hm, upI_one (by rw [hm, fillR_getD (by omega)]; rfl), he]) | (rw [hm, fillR_length g1]; exact ⟨trivial, rfl⟩) | (rw [hm, show i.toNat = es.length from by omega, fillR_all]) | trivial | exact ⟨trivial, trivial⟩ | (refine ⟨hr0, ?_⟩; simp only [cntRs, cntE, Nat.add_zero]; omega) | trace_state
theorem c_laws_eqIntSS (es : List (List L)) (d : DV) (hp : d = .one (.s 1 es) /\ Rw [.sl [tI]] es /\ cntE es <= 1099511627776) : Ctr Tryz.prog 128 [.one (.s 1 es), d] [.one (.v (.bool true))] := by
 obtain ⟨rfl, hw, hlim⟩ := hp
 have hwf : Wf [.s 1 []] es := hw.wf
 have hlen : es.length <= 1099511627776 := Nat.le_trans (Nat.le_add_right _ _) hlim
 refine ctr_b LIntSS.B tabOk mixed 27 _ [4] [.tmp 4] Tryz.func128 rfl rfl rfl rfl rfl ?_
 intro O r (F : LIntSS.Fns) hO hr (hF : F = LIntSS.F0)
 cbv
 refine cbi (fun hb => ?_) (fun hb => ?_) <;> cbv
 ·(subst hO hr hF; (try simp only [stdO, SS, sa, az] at *); (try simp only [nc] at *); (try simp only [onc] at *)); exact absurd rfl hb
 ·clear hb
  refine ⟨[0, 1, 5], [], Int, fun i => [.reg 5 (.one (.v (.int .i64 i)))], fun i => 0 <= i /\ i.toNat <= es.length, fun i => es.length - i.toNat, ⟨0, ?_, ?_⟩, ?_⟩
  ·exact ⟨by omega, Nat.zero_le _⟩
  ·cbv
  ·rintro i hi
   replace hi : 0 <= i /\ i.toNat <= es.length := hi
   obtain ⟨g0, g1⟩ := hi
   cbv
   repeat' first | refine And.intro ?_ ?_ | (refine cbi (fun hb => ?_) (fun hb => ?_) <;> cbv) | (refine loop_step (O.ar .add .i64 i 1) ?_ ?_ ?_; rotate_left 2; focus (cbv; done))
   all_goals (subst hO hr hF; (try simp only [stdO, SS, sa, az] at *); (try simp only [nc] at *); (try simp only [onc] at *))
   all_goals (try simp only [LIntSS.F0] at *)
   all_goals try have hlt : i < es.length := by assumption
   all_goals try rw [inc64 (n := es.length) g0 hlt (by omega)]
   all_goals try have he : es.getD i.toNat [] = [.s 1 (gsI es i 0)] := (etaE_whole hwf g0 hlt).symm
   all_goals try have hr0 : Rw [tI] (gsI es i 0) := Rw.sub (fs := [.sl [tI]]) hw (by omega) rfl
   all_goals try have hct := cntE_at (es := es) (n := i.toNat) (by omega); rw [he] at hct; simp only [cntR, cntL, Nat.add_zero, Nat.zero_add] at hct
   all_goals have hle1 := cntEs_take_le (es := es) (n := i.toNat + 1)
   all_goals have hcE : cntE es = es.length + cntEs es := rfl
   all_goals first | omega | exact row_ro hwf g0 hlt | exact absurd rfl hb | exact absurd rfl (by assumption) | trivial | kernel_rfl | exact ⟨trivial, trivial⟩ | (refine ⟨trivial, hr0, ?_⟩; simp only [cntRs, cntE, Nat.add_zero]; omega) | trace_state
namespace LBoolS
structure Fns where
 no : Unit
def F0 : Fns := ⟨()⟩
def B : TB Tryz.prog := {Φ := Fns, F0 := F0}
end LBoolS
theorem c_laws_szBoolS (es : List (List L)) (left : Int) (hp : Rw [tB] es /\ 0 <= left /\ left <= 1048576) : Ctr Tryz.prog 214 [.one (.s 1 es), .one (.v (.int .i64 left))] [.one (.v (.int .i64 (szN0 [es] left)))] := by
 obtain ⟨hw, h0, h1⟩ := hp
 have hc : cntE es = es.length := hw.cnt rfl
 have hm := hw.1; unfold maxLen at hm
 have hs : arI .sub .i64 left es.length = left - es.length := sub64 (by omega)
 have hn : szN0 [es] left = if left < es.length then -1 else left - es.length := by unfold szN0; rw [cntRs_one, hc]
 refine ctr_b LBoolS.B tabOk mixed 12 _ [3] [.tmp 4] Tryz.func214 rfl rfl rfl rfl rfl ?_
 intro O r (F : LBoolS.Fns) hO hr (hF : F = LBoolS.F0)
 cbv
 repeat' first | refine And.intro ?_ ?_ | (refine cbi (fun hb => ?_) (fun hb => ?_) <;> cbv)
 all_goals (subst hO hr hF; (try simp only [stdO, SS, sa, az] at *); (try simp only [nc] at *); (try simp only [onc] at *))
 all_goals (try simp only [hs, LBoolS.F0] at *)
 all_goals first | trivial | (rw [hn, if_pos (by omega)]) | (rw [hn, if_neg (by omega)])
theorem c_laws_toBoolS (es : List (List L)) (hp : Rw [tB] es /\ cntE es <= 1048576) : Ctr Tryz.prog 217 [.one (.s 1 es)] [.one (.s 1 es)] := by
 obtain ⟨hw, hlim⟩ := hp
 have hwf : Wf [.v (.bool false)] es := hw.wf
 have hlen : es.length <= 1048576 := Nat.le_trans (Nat.le_add_right _ _) hlim
 refine ctr_b LBoolS.B tabOk mixed 22 _ [23] [.tmp 2] Tryz.func217 rfl rfl rfl rfl rfl ?_
 intro O r (F : LBoolS.Fns) hO hr (hF : F = LBoolS.F0)
 cbv
 have h0z : fillR es [.v (.bool false)] 0 = O.rep (O.zi (O.ln es)) [.v (.bool false)] := by
  subst hO
  rw [fillR_zero]; rfl
 refine ⟨?_, ?_, [0, 3, 4], [3], Int × List (List L), fun s => [.reg 4 (.one (.v (.int .i64 s.1))), .leaf 3 0 ⟨0, 0, none, .own (.s 1 s.2)⟩], fun s => 0 <= s.1 /\ s.1.toNat <= es.length /\ s.2 = fillR es [.v (.bool false)] s.1.toNat, fun s => es.length - s.1.toNat, ⟨(0, O.rep (O.zi (O.ln es)) [.v (.bool false)]), ?_, ?_⟩, ?_⟩
 ·subst hO
  exact mk_ok (b := 1) (show es.length * _ <= _ by omega) (show es.length <= _ by omega)
 ·subst hO
  exact ⟨rfl, rfl⟩
 ·exact ⟨by omega, Nat.zero_le _, h0z.symm⟩
 ·cbv
 ·rintro ⟨i, m⟩ hi
  replace hi : 0 <= i /\ i.toNat <= es.length /\ m = fillR es [.v (.bool false)] i.toNat := hi
  obtain ⟨g0, g1, hm⟩ := hi
  cbv
  repeat' first | refine And.intro ?_ ?_ | (refine cbi (fun hb => ?_) (fun hb => ?_) <;> cbv) | (refine loop_step (O.ar .add .i64 i 1, O.up (.s 1 m) [(O.ad 0 i, 0)] [.v (.bool (O.gb es i 0))]) ?_ ?_ ?_; rotate_left 2; focus (cbv; done))
  all_goals (subst hO hr hF; (try simp only [stdO, SS, sa, az] at *); (try simp only [nc] at *); (try simp only [onc] at *))
  all_goals (try simp only [LBoolS.F0, repI, List.length_replicate, Int.toNat_natCast] at *)
  all_goals try have hlt : i < es.length := by assumption
  all_goals try rw [inc64 (n := es.length) g0 hlt (by omega)]
  all_goals try have he : es.getD i.toNat [] = [.v (.bool (gbI es i 0))] := (etaE_whole hwf g0 hlt).symm
  all_goals try have hct := cntE_at (es := es) (n := i.toNat) (by omega); rw [he] at hct; simp only [cntR, cntL, Nat.add_zero, Nat.zero_add] at hct
  all_goals have hle1 := cntEs_take_le (es := es) (n := i.toNat + 1)
  all_goals have hcE : cntE es = es.length + cntEs es := rfl
  all_goals first | exact row_ro hwf g0 hlt | exact ⟨g0, hlt⟩ | (rw [hm]; exact getR_some (by rw [fillR_length g1]; omega) (by rw [fillR_getD (by omega)]; exact Nat.le_refl _)) | omega | (rw [show (i + 1).toNat = i.toNat + 1 from by omega, <- fillR_set (by omega), <- hm, upI_one (by rw [hm, fillR_getD (by omega)]; rfl), he]) | (rw [hm, fillR_length g1]; exact ⟨trivial, rfl⟩) | (rw [hm, show i.toNat = es.length from by omega, fillR_all]) | trivial | exact ⟨trivial, trivial⟩ | (refine ⟨?_⟩; simp only [cntRs, cntE, Nat.add_zero]; omega) | trace_state
theorem c_laws_eqBoolS (es : List (List L)) (d : DV) (hp : d = .one (.s 1 es) /\ Rw [tB] es /\ cntE es <= 1099511627776) : Ctr Tryz.prog 232 [.one (.s 1 es), d] [.one (.v (.bool true))] := by
 obtain ⟨rfl, hw, hlim⟩ := hp
 have hwf : Wf [.v (.bool false)] es := hw.wf
 have hlen : es.length <= 1099511627776 := Nat.le_trans (Nat.le_add_right _ _) hlim
 refine ctr_b LBoolS.B tabOk mixed 26 _ [4] [.tmp 4] Tryz.func232 rfl rfl rfl rfl rfl ?_
 intro O r (F : LBoolS.Fns) hO hr (hF : F = LBoolS.F0)
 cbv
 refine cbi (fun hb => ?_) (fun hb => ?_) <;> cbv
 ·(subst hO hr hF; (try simp only [stdO, SS, sa, az] at *); (try simp only [nc] at *); (try simp only [onc] at *)); exact absurd rfl hb
 ·clear hb
  refine ⟨[0, 1, 5], [], Int, fun i => [.reg 5 (.one (.v (.int .i64 i)))], fun i => 0 <= i /\ i.toNat <= es.length, fun i => es.length - i.toNat, ⟨0, ?_, ?_⟩, ?_⟩
  ·exact ⟨by omega, Nat.zero_le _⟩
  ·cbv
  ·rintro i hi
   replace hi : 0 <= i /\ i.toNat <= es.length := hi
   obtain ⟨g0, g1⟩ := hi
   cbv
   repeat' first | refine And.intro ?_ ?_ | (refine cbi (fun hb => ?_) (fun hb => ?_) <;> cbv) | (refine loop_step (O.ar .add .i64 i 1) ?_ ?_ ?_; rotate_left 2; focus (cbv; done))
   all_goals (subst hO hr hF; (try simp only [stdO, SS, sa, az] at *); (try simp only [nc] at *); (try simp only [onc] at *))
   all_goals (try simp only [LBoolS.F0] at *)
   all_goals try have hlt : i < es.length := by assumption
   all_goals try rw [inc64 (n := es.length) g0 hlt (by omega)]
   all_goals try have he : es.getD i.toNat [] = [.v (.bool (gbI es i 0))] := (etaE_whole hwf g0 hlt).symm
   all_goals try have hct := cntE_at (es := es) (n := i.toNat) (by omega); rw [he] at hct; simp only [cntR, cntL, Nat.add_zero, Nat.zero_add] at hct
   all_goals have hle1 := cntEs_take_le (es := es) (n := i.toNat + 1)
   all_goals have hcE : cntE es = es.length + cntEs es := rfl
   all_goals first | omega | exact row_ro hwf g0 hlt | exact absurd rfl hb | exact absurd rfl (by assumption) | trivial | kernel_rfl | exact ⟨trivial, trivial⟩ | (refine ⟨trivial, ?_⟩; simp only [cntRs, cntE, Nat.add_zero]; omega) | trace_state
namespace LFrames
structure Fns where
 szN : List (List (List L)) -> Int -> Int
def F0 : Fns := ⟨szN0⟩
def ct (F : Fns) : CT := fun f ds => match f with
 | 94 => match ds with
   | [.one (.s 1 es), .one (.v (.int .i64 left))] => some (fun _ => Rw [.sl [tI]] es /\ 0 <= left /\ left <= 1048576, [.one (.v (.int .i64 (F.szN [es] left)))])
   | _ => none
 | 107 => match ds with
   | [.one (.s 1 es)] => some (fun _ => Rw [.sl [tI]] es /\ cntE es <= 1048576, [.one (.s 1 es)])
   | _ => none
 | 128 => match ds with
   | [.one (.s 1 es), d] => some (fun _ => d = .one (.s 1 es) /\ Rw [.sl [tI]] es /\ cntE es <= 1099511627776, [.one (.v (.bool true))])
   | _ => none
 | 214 => match ds with
   | [.one (.s 1 es), .one (.v (.int .i64 left))] => some (fun _ => Rw [tB] es /\ 0 <= left /\ left <= 1048576, [.one (.v (.int .i64 (F.szN [es] left)))])
   | _ => none
 | 217 => match ds with
   | [.one (.s 1 es)] => some (fun _ => Rw [tB] es /\ cntE es <= 1048576, [.one (.s 1 es)])
   | _ => none
 | 232 => match ds with
   | [.one (.s 1 es), d] => some (fun _ => d = .one (.s 1 es) /\ Rw [tB] es /\ cntE es <= 1099511627776, [.one (.v (.bool true))])
   | _ => none
 | _ => none
theorem ct_ok : CTok Tryz.prog (ct F0) := by
 intro f ds pre res h hp
 unfold ct at h
 split at h <;> (try split at h) <;> cases h
 exact c_laws_szIntSS _ _ hp
 exact c_laws_toIntSS _ hp
 exact c_laws_eqIntSS _ _ hp
 exact c_laws_szBoolS _ _ hp
 exact c_laws_toBoolS _ hp
 exact c_laws_eqBoolS _ _ hp
def B : TB Tryz.prog := tb ct_ok
end LFrames
theorem c_laws_szFrames (a0 a1 : List (List L)) (left : Int) (hp : Rw [.sl [tI]] a0 /\ Rw [tB] a1 /\ 0 <= left /\ left <= 1048576) : Ctr Tryz.prog 172 [.agg [.s 1 a0, .s 1 a1], .one (.v (.int .i64 left))] [.one (.v (.int .i64 (szN0 [a0, a1] left)))] := by
 obtain ⟨w0, w1, h0, h1⟩ := hp
 refine ctr_b LFrames.B tabOk mixed 18 _ [3] [.tmp 4] Tryz.func172 rfl rfl rfl rfl rfl ?_
 intro O r (F : LFrames.Fns) hO hr (hF : F = LFrames.F0)
 cbv
 repeat' first | refine And.intro ?_ ?_ | (refine cbi (fun hb => ?_) (fun hb => ?_) <;> cbv)
 all_goals (subst hO hr hF; (try simp only [stdO, SS, sa, az] at *); (try simp only [nc] at *); (try simp only [onc] at *))
 all_goals (try simp only [LFrames.F0] at *)
 all_goals (try simp (disch := assumption) only [szN_app, List.cons_append, List.nil_append] at *)
 all_goals first | trivial | exact rfl | (refine ⟨by assumption, by omega, by first | omega | exact Int.le_trans (szN_le (by assumption)) h1⟩) | (refine ⟨by assumption, by assumption, by omega, by first | omega | exact Int.le_trans (szN_le (by assumption)) h1⟩) | (rw [szN_neg1 (by assumption)]) | exact congrArg (fun x => [DV.one (L.v (Value.int IntKind.i64 x))]) (szN_more (a := [a0]) (b := [a1]) (by assumption)).symm | trace_state
theorem c_laws_toFrames (a0 a1 : List (List L)) (hp : Rw [.sl [tI]] a0 /\ Rw [tB] a1 /\ cntRs [a0, a1] <= 1048576) : Ctr Tryz.prog 179 [.agg [.s 1 a0, .s 1 a1]] [.agg [.s 1 a0, .s 1 a1]] := by
 obtain ⟨w0, w1, hlim⟩ := hp
 simp only [cntRs, Nat.add_zero] at hlim
 refine ctr_b LFrames.B tabOk mixed 13 _ [53] [.cell 2 53] Tryz.func179 rfl rfl rfl rfl rfl ?_
 intro O r (F : LFrames.Fns) hO hr (hF : F = LFrames.F0)
 cbv
 repeat' first | refine And.intro ?_ ?_ | (refine cbi (fun hb => ?_) (fun hb => ?_) <;> cbv)
 all_goals (subst hO hr hF; (try simp only [stdO, SS, sa, az] at *); (try simp only [nc] at *); (try simp only [onc] at *))
 all_goals (try simp only [LFrames.F0] at *)
 all_goals first | trivial | exact rfl | exact ⟨trivial, trivial⟩ | exact ⟨rfl, rfl⟩ | (refine ⟨by assumption, ?_⟩; (try simp only [cntRs, Nat.add_zero]); omega) | (refine ⟨by assumption, by assumption, ?_⟩; (try simp only [cntRs, Nat.add_zero]); omega) | ((try simp only [cntRs, Nat.add_zero]); omega) | trace_state
theorem c_laws_eqFrames (a0 a1 : List (List L)) (d : DV) (hp : d = .agg [.s 1 a0, .s 1 a1] /\ Rw [.sl [tI]] a0 /\ Rw [tB] a1 /\ cntRs [a0, a1] <= 1099511627776) : Ctr Tryz.prog 189 [.agg [.s 1 a0, .s 1 a1], d] [.one (.v (.bool true))] := by
 obtain ⟨rfl, w0, w1, hlim⟩ := hp
 simp only [cntRs, Nat.add_zero] at hlim
 refine ctr_b LFrames.B tabOk mixed 17 _ [4] [.tmp 4] Tryz.func189 rfl rfl rfl rfl rfl ?_
 intro O r (F : LFrames.Fns) hO hr (hF : F = LFrames.F0)
 cbv
 repeat' first | refine And.intro ?_ ?_ | (refine cbi (fun hb => ?_) (fun hb => ?_) <;> cbv)
 all_goals (subst hO hr hF; (try simp only [stdO, SS, sa, az] at *); (try simp only [nc] at *); (try simp only [onc] at *))
 all_goals (try simp only [LFrames.F0] at *)
 all_goals first | trivial | exact rfl | exact absurd rfl hb | exact absurd rfl (by assumption) | (refine ⟨trivial, by assumption, ?_⟩; (try simp only [cntRs, Nat.add_zero]); omega) | (refine ⟨trivial, by assumption, by assumption, ?_⟩; (try simp only [cntRs, Nat.add_zero]); omega) | (refine ⟨trivial, ?_⟩; (try simp only [cntRs, Nat.add_zero]); omega) | trace_state
namespace LEntry
structure Fns where
 no : Unit
def F0 : Fns := ⟨()⟩
def B : TB Tryz.prog := {Φ := Fns, F0 := F0}
end LEntry
theorem c_laws_toEntry (a0 a1 : Int) (hp : True) : Ctr Tryz.prog 238 [.agg [.v (.int .i64 a0), .v (.int .i64 a1)]] [.agg [.v (.int .i64 a0), .v (.int .i64 a1)]] := by
 refine ctr_b LEntry.B tabOk mixed 11 _ [205] [.cell 2 205] Tryz.func238 rfl rfl rfl rfl rfl ?_
 intro O r (F : LEntry.Fns) hO hr (hF : F = LEntry.F0)
 cbv
 repeat' first | refine And.intro ?_ ?_ | (refine cbi (fun hb => ?_) (fun hb => ?_) <;> cbv)
 all_goals (subst hO hr hF; (try simp only [stdO, SS, sa, az] at *); (try simp only [nc] at *); (try simp only [onc] at *))
 all_goals (try simp only [LEntry.F0] at *)
 all_goals first | trivial | exact rfl | exact ⟨trivial, trivial⟩ | exact ⟨rfl, rfl⟩ | (refine ⟨by assumption, ?_⟩; (try simp only [cntRs, Nat.add_zero]); omega) | ((try simp only [cntRs, Nat.add_zero]); omega) | trace_state
theorem c_laws_eqEntry (a0 a1 : Int) (d : DV) (hp : d = .agg [.v (.int .i64 a0), .v (.int .i64 a1)]) : Ctr Tryz.prog 245 [.agg [.v (.int .i64 a0), .v (.int .i64 a1)], d] [.one (.v (.bool true))] := by
 subst hp
 refine ctr_b LEntry.B tabOk mixed 15 _ [4] [.tmp 4] Tryz.func245 rfl rfl rfl rfl rfl ?_
 intro O r (F : LEntry.Fns) hO hr (hF : F = LEntry.F0)
 cbv
 repeat' first | refine And.intro ?_ ?_ | (refine cbi (fun hb => ?_) (fun hb => ?_) <;> cbv)
 all_goals (subst hO hr hF; (try simp only [stdO, SS, sa, az] at *); (try simp only [nc] at *); (try simp only [onc] at *))
 all_goals (try simp only [LEntry.F0] at *)
 all_goals first | trivial | exact rfl | exact absurd rfl hb | exact absurd rfl (by assumption) | (refine ⟨trivial, by assumption, ?_⟩; (try simp only [cntRs, Nat.add_zero]); omega) | (refine ⟨trivial, ?_⟩; (try simp only [cntRs, Nat.add_zero]); omega) | trace_state
namespace LEntryS
structure Fns where
 no : Unit
def F0 : Fns := ⟨()⟩
def ct (F : Fns) : CT := fun f ds => match f with
 | 238 => match ds with
   | [.agg [.v (.int .i64 a0), .v (.int .i64 a1)]] => some (fun _ => True, [.agg [.v (.int .i64 a0), .v (.int .i64 a1)]])
   | _ => none
 | 245 => match ds with
   | [.agg [.v (.int .i64 a0), .v (.int .i64 a1)], d] => some (fun _ => d = .agg [.v (.int .i64 a0), .v (.int .i64 a1)], [.one (.v (.bool true))])
   | _ => none
 | _ => none
theorem ct_ok : CTok Tryz.prog (ct F0) := by
 intro f ds pre res h hp
 unfold ct at h
 split at h <;> (try split at h) <;> cases h
 exact c_laws_toEntry _ _ hp
 exact c_laws_eqEntry _ _ _ hp
def B : TB Tryz.prog := tb ct_ok
end LEntryS
theorem c_laws_szEntryS (es : List (List L)) (left : Int) (hp : Rw [tI, tI] es /\ 0 <= left /\ left <= 1048576) : Ctr Tryz.prog 215 [.one (.s 2 es), .one (.v (.int .i64 left))] [.one (.v (.int .i64 (szN0 [es] left)))] := by
 obtain ⟨hw, h0, h1⟩ := hp
 have hc : cntE es = es.length := hw.cnt rfl
 have hm := hw.1; unfold maxLen at hm
 have hs : arI .sub .i64 left es.length = left - es.length := sub64 (by omega)
 have hn : szN0 [es] left = if left < es.length then -1 else left - es.length := by unfold szN0; rw [cntRs_one, hc]
 refine ctr_b LEntryS.B tabOk mixed 12 _ [3] [.tmp 4] Tryz.func215 rfl rfl rfl rfl rfl ?_
 intro O r (F : LEntryS.Fns) hO hr (hF : F = LEntryS.F0)
 cbv
 repeat' first | refine And.intro ?_ ?_ | (refine cbi (fun hb => ?_) (fun hb => ?_) <;> cbv)
 all_goals (subst hO hr hF; (try simp only [stdO, SS, sa, az] at *); (try simp only [nc] at *); (try simp only [onc] at *))
 all_goals (try simp only [hs, LEntryS.F0] at *)
 all_goals first | trivial | (rw [hn, if_pos (by omega)]) | (rw [hn, if_neg (by omega)])
theorem c_laws_toEntryS (es : List (List L)) (hp : Rw [tI, tI] es /\ cntE es <= 1048576) : Ctr Tryz.prog 218 [.one (.s 2 es)] [.one (.s 2 es)] := by
 obtain ⟨hw, hlim⟩ := hp
 have hwf : Wf [.v (.int .i64 0), .v (.int .i64 0)] es := hw.wf
 have hlen : es.length <= 1048576 := Nat.le_trans (Nat.le_add_right _ _) hlim
 refine ctr_b LEntryS.B tabOk mixed 23 _ [54] [.tmp 2] Tryz.func218 rfl rfl rfl rfl rfl ?_
 intro O r (F : LEntryS.Fns) hO hr (hF : F = LEntryS.F0)
 cbv
 have h0z : fillR es [.v (.int .i64 0), .v (.int .i64 0)] 0 = O.rep (O.zi (O.ln es)) [.v (.int .i64 0), .v (.int .i64 0)] := by
  subst hO
  rw [fillR_zero]; rfl
 refine ⟨?_, ?_, [0, 3, 4], [3], Int × List (List L), fun s => [.reg 4 (.one (.v (.int .i64 s.1))), .leaf 3 0 ⟨0, 0, none, .own (.s 2 s.2)⟩], fun s => 0 <= s.1 /\ s.1.toNat <= es.length /\ s.2 = fillR es [.v (.int .i64 0), .v (.int .i64 0)] s.1.toNat, fun s => es.length - s.1.toNat, ⟨(0, O.rep (O.zi (O.ln es)) [.v (.int .i64 0), .v (.int .i64 0)]), ?_, ?_⟩, ?_⟩
 ·subst hO
  exact mk_ok (b := 16) (show es.length * _ <= _ by omega) (show es.length <= _ by omega)
 ·subst hO
  exact ⟨rfl, rfl⟩
 ·exact ⟨by omega, Nat.zero_le _, h0z.symm⟩
 ·cbv
 ·rintro ⟨i, m⟩ hi
  replace hi : 0 <= i /\ i.toNat <= es.length /\ m = fillR es [.v (.int .i64 0), .v (.int .i64 0)] i.toNat := hi
  obtain ⟨g0, g1, hm⟩ := hi
  cbv
  repeat' first | refine And.intro ?_ ?_ | (refine cbi (fun hb => ?_) (fun hb => ?_) <;> cbv) | (refine loop_step (O.ar .add .i64 i 1, O.up (.s 2 m) [(O.ad 0 i, 0)] [.v (.int .i64 (O.gi es i 0)), .v (.int .i64 (O.gi es i 1))]) ?_ ?_ ?_; rotate_left 2; focus (cbv; done))
  all_goals (subst hO hr hF; (try simp only [stdO, SS, sa, az] at *); (try simp only [nc] at *); (try simp only [onc] at *))
  all_goals (try simp only [LEntryS.F0, repI, List.length_replicate, Int.toNat_natCast] at *)
  all_goals try have hlt : i < es.length := by assumption
  all_goals try rw [inc64 (n := es.length) g0 hlt (by omega)]
  all_goals try have he : es.getD i.toNat [] = [.v (.int .i64 (giI es i 0)), .v (.int .i64 (giI es i 1))] := (etaE_whole hwf g0 hlt).symm
  all_goals try have hct := cntE_at (es := es) (n := i.toNat) (by omega); rw [he] at hct; simp only [cntR, cntL, Nat.add_zero, Nat.zero_add] at hct
  all_goals have hle1 := cntEs_take_le (es := es) (n := i.toNat + 1)
  all_goals have hcE : cntE es = es.length + cntEs es := rfl
  all_goals first | exact row_ro hwf g0 hlt | exact ⟨g0, hlt⟩ | (rw [hm]; exact getR_some (by rw [fillR_length g1]; omega) (by rw [fillR_getD (by omega)]; exact Nat.le_refl _)) | omega | (rw [show (i + 1).toNat = i.toNat + 1 from by omega, <- fillR_set (by omega), <- hm, upI_one (by rw [hm, fillR_getD (by omega)]; rfl), he]) | (rw [hm, fillR_length g1]; exact ⟨trivial, rfl⟩) | (rw [hm, show i.toNat = es.length from by omega, fillR_all]) | trivial | exact ⟨trivial, trivial⟩ | (refine ⟨?_⟩; simp only [cntRs, cntE, Nat.add_zero]; omega) | trace_state
theorem c_laws_eqEntryS (es : List (List L)) (d : DV) (hp : d = .one (.s 2 es) /\ Rw [tI, tI] es /\ cntE es <= 1099511627776) : Ctr Tryz.prog 233 [.one (.s 2 es), d] [.one (.v (.bool true))] := by
 obtain ⟨rfl, hw, hlim⟩ := hp
 have hwf : Wf [.v (.int .i64 0), .v (.int .i64 0)] es := hw.wf
 have hlen : es.length <= 1099511627776 := Nat.le_trans (Nat.le_add_right _ _) hlim
 refine ctr_b LEntryS.B tabOk mixed 27 _ [4] [.tmp 4] Tryz.func233 rfl rfl rfl rfl rfl ?_
 intro O r (F : LEntryS.Fns) hO hr (hF : F = LEntryS.F0)
 cbv
 refine cbi (fun hb => ?_) (fun hb => ?_) <;> cbv
 ·(subst hO hr hF; (try simp only [stdO, SS, sa, az] at *); (try simp only [nc] at *); (try simp only [onc] at *)); exact absurd rfl hb
 ·clear hb
  refine ⟨[0, 1, 5], [], Int, fun i => [.reg 5 (.one (.v (.int .i64 i)))], fun i => 0 <= i /\ i.toNat <= es.length, fun i => es.length - i.toNat, ⟨0, ?_, ?_⟩, ?_⟩
  ·exact ⟨by omega, Nat.zero_le _⟩
  ·cbv
  ·rintro i hi
   replace hi : 0 <= i /\ i.toNat <= es.length := hi
   obtain ⟨g0, g1⟩ := hi
   cbv
   repeat' first | refine And.intro ?_ ?_ | (refine cbi (fun hb => ?_) (fun hb => ?_) <;> cbv) | (refine loop_step (O.ar .add .i64 i 1) ?_ ?_ ?_; rotate_left 2; focus (cbv; done))
   all_goals (subst hO hr hF; (try simp only [stdO, SS, sa, az] at *); (try simp only [nc] at *); (try simp only [onc] at *))
   all_goals (try simp only [LEntryS.F0] at *)
   all_goals try have hlt : i < es.length := by assumption
   all_goals try rw [inc64 (n := es.length) g0 hlt (by omega)]
   all_goals try have he : es.getD i.toNat [] = [.v (.int .i64 (giI es i 0)), .v (.int .i64 (giI es i 1))] := (etaE_whole hwf g0 hlt).symm
   all_goals try have hct := cntE_at (es := es) (n := i.toNat) (by omega); rw [he] at hct; simp only [cntR, cntL, Nat.add_zero, Nat.zero_add] at hct
   all_goals have hle1 := cntEs_take_le (es := es) (n := i.toNat + 1)
   all_goals have hcE : cntE es = es.length + cntEs es := rfl
   all_goals first | omega | exact row_ro hwf g0 hlt | exact absurd rfl hb | exact absurd rfl (by assumption) | trivial | kernel_rfl | exact ⟨trivial, trivial⟩ | (refine ⟨trivial, ?_⟩; simp only [cntRs, cntE, Nat.add_zero]; omega) | trace_state
namespace LTable
structure Fns where
 szN : List (List (List L)) -> Int -> Int
def F0 : Fns := ⟨szN0⟩
def ct (F : Fns) : CT := fun f ds => match f with
 | 215 => match ds with
   | [.one (.s 2 es), .one (.v (.int .i64 left))] => some (fun _ => Rw [tI, tI] es /\ 0 <= left /\ left <= 1048576, [.one (.v (.int .i64 (F.szN [es] left)))])
   | _ => none
 | 218 => match ds with
   | [.one (.s 2 es)] => some (fun _ => Rw [tI, tI] es /\ cntE es <= 1048576, [.one (.s 2 es)])
   | _ => none
 | 233 => match ds with
   | [.one (.s 2 es), d] => some (fun _ => d = .one (.s 2 es) /\ Rw [tI, tI] es /\ cntE es <= 1099511627776, [.one (.v (.bool true))])
   | _ => none
 | _ => none
theorem ct_ok : CTok Tryz.prog (ct F0) := by
 intro f ds pre res h hp
 unfold ct at h
 split at h <;> (try split at h) <;> cases h
 exact c_laws_szEntryS _ _ hp
 exact c_laws_toEntryS _ hp
 exact c_laws_eqEntryS _ _ hp
def B : TB Tryz.prog := tb ct_ok
end LTable
theorem c_laws_szTable (a0 : List (List L)) (left : Int) (hp : Rw [tI, tI] a0 /\ 0 <= left /\ left <= 1048576) : Ctr Tryz.prog 173 [.agg [.s 2 a0], .one (.v (.int .i64 left))] [.one (.v (.int .i64 (szN0 [a0] left)))] := by
 obtain ⟨w0, h0, h1⟩ := hp
 refine ctr_b LTable.B tabOk mixed 12 _ [3] [.tmp 4] Tryz.func173 rfl rfl rfl rfl rfl ?_
 intro O r (F : LTable.Fns) hO hr (hF : F = LTable.F0)
 cbv
 repeat' first | refine And.intro ?_ ?_ | (refine cbi (fun hb => ?_) (fun hb => ?_) <;> cbv)
 all_goals (subst hO hr hF; (try simp only [stdO, SS, sa, az] at *); (try simp only [nc] at *); (try simp only [onc] at *))
 all_goals (try simp only [LTable.F0] at *)
 all_goals (try simp (disch := assumption) only [szN_app, List.cons_append, List.nil_append] at *)
 all_goals first | trivial | exact rfl | (refine ⟨by assumption, by omega, by first | omega | exact Int.le_trans (szN_le (by assumption)) h1⟩) | (rw [szN_neg1 (by assumption)]) | trace_state
theorem c_laws_toTable (a0 : List (List L)) (hp : Rw [tI, tI] a0 /\ cntRs [a0] <= 1048576) : Ctr Tryz.prog 180 [.agg [.s 2 a0]] [.agg [.s 2 a0]] := by
 obtain ⟨w0, hlim⟩ := hp
 simp only [cntRs, Nat.add_zero] at hlim
 refine ctr_b LTable.B tabOk mixed 9 _ [56] [.cell 2 56] Tryz.func180 rfl rfl rfl rfl rfl ?_
 intro O r (F : LTable.Fns) hO hr (hF : F = LTable.F0)
 cbv
 repeat' first | refine And.intro ?_ ?_ | (refine cbi (fun hb => ?_) (fun hb => ?_) <;> cbv)
 all_goals (subst hO hr hF; (try simp only [stdO, SS, sa, az] at *); (try simp only [nc] at *); (try simp only [onc] at *))
 all_goals (try simp only [LTable.F0] at *)
 all_goals first | trivial | exact rfl | exact ⟨trivial, trivial⟩ | exact ⟨rfl, rfl⟩ | (refine ⟨by assumption, ?_⟩; (try simp only [cntRs, Nat.add_zero]); omega) | ((try simp only [cntRs, Nat.add_zero]); omega) | trace_state
theorem c_laws_eqTable (a0 : List (List L)) (d : DV) (hp : d = .agg [.s 2 a0] /\ Rw [tI, tI] a0 /\ cntRs [a0] <= 1099511627776) : Ctr Tryz.prog 190 [.agg [.s 2 a0], d] [.one (.v (.bool true))] := by
 obtain ⟨rfl, w0, hlim⟩ := hp
 simp only [cntRs, Nat.add_zero] at hlim
 refine ctr_b LTable.B tabOk mixed 11 _ [4] [.tmp 4] Tryz.func190 rfl rfl rfl rfl rfl ?_
 intro O r (F : LTable.Fns) hO hr (hF : F = LTable.F0)
 cbv
 repeat' first | refine And.intro ?_ ?_ | (refine cbi (fun hb => ?_) (fun hb => ?_) <;> cbv)
 all_goals (subst hO hr hF; (try simp only [stdO, SS, sa, az] at *); (try simp only [nc] at *); (try simp only [onc] at *))
 all_goals (try simp only [LTable.F0] at *)
 all_goals first | trivial | exact rfl | exact absurd rfl hb | exact absurd rfl (by assumption) | (refine ⟨trivial, by assumption, ?_⟩; (try simp only [cntRs, Nat.add_zero]); omega) | (refine ⟨trivial, ?_⟩; (try simp only [cntRs, Nat.add_zero]); omega) | trace_state
namespace LMachine
structure Fns where
 szN : List (List (List L)) -> Int -> Int
def F0 : Fns := ⟨szN0⟩
def ct (F : Fns) : CT := fun f ds => match f with
 | 172 => match ds with
   | [.agg [.s 1 a0, .s 1 a1], .one (.v (.int .i64 left))] => some (fun _ => Rw [.sl [tI]] a0 /\ Rw [tB] a1 /\ 0 <= left /\ left <= 1048576, [.one (.v (.int .i64 (F.szN [a0, a1] left)))])
   | _ => none
 | 179 => match ds with
   | [.agg [.s 1 a0, .s 1 a1]] => some (fun _ => Rw [.sl [tI]] a0 /\ Rw [tB] a1 /\ cntRs [a0, a1] <= 1048576, [.agg [.s 1 a0, .s 1 a1]])
   | _ => none
 | 189 => match ds with
   | [.agg [.s 1 a0, .s 1 a1], d] => some (fun _ => d = .agg [.s 1 a0, .s 1 a1] /\ Rw [.sl [tI]] a0 /\ Rw [tB] a1 /\ cntRs [a0, a1] <= 1099511627776, [.one (.v (.bool true))])
   | _ => none
 | 173 => match ds with
   | [.agg [.s 2 a0], .one (.v (.int .i64 left))] => some (fun _ => Rw [tI, tI] a0 /\ 0 <= left /\ left <= 1048576, [.one (.v (.int .i64 (F.szN [a0] left)))])
   | _ => none
 | 180 => match ds with
   | [.agg [.s 2 a0]] => some (fun _ => Rw [tI, tI] a0 /\ cntRs [a0] <= 1048576, [.agg [.s 2 a0]])
   | _ => none
 | 190 => match ds with
   | [.agg [.s 2 a0], d] => some (fun _ => d = .agg [.s 2 a0] /\ Rw [tI, tI] a0 /\ cntRs [a0] <= 1099511627776, [.one (.v (.bool true))])
   | _ => none
 | _ => none
theorem ct_ok : CTok Tryz.prog (ct F0) := by
 intro f ds pre res h hp
 unfold ct at h
 split at h <;> (try split at h) <;> cases h
 exact c_laws_szFrames _ _ _ hp
 exact c_laws_toFrames _ _ hp
 exact c_laws_eqFrames _ _ _ hp
 exact c_laws_szTable _ _ hp
 exact c_laws_toTable _ hp
 exact c_laws_eqTable _ _ hp
def B : TB Tryz.prog := tb ct_ok
end LMachine
theorem c_laws_szMachine (a0 a1 a2 : List (List L)) (left : Int) (hp : Rw [.sl [tI]] a0 /\ Rw [tB] a1 /\ Rw [tI, tI] a2 /\ 0 <= left /\ left <= 1048576) : Ctr Tryz.prog 90 [.agg [.s 1 a0, .s 1 a1, .s 2 a2], .one (.v (.int .i64 left))] [.one (.v (.int .i64 (szN0 [a0, a1, a2] left)))] := by
 obtain ⟨w0, w1, w2, h0, h1⟩ := hp
 refine ctr_b LMachine.B tabOk mixed 18 _ [3] [.tmp 4] Tryz.func90 rfl rfl rfl rfl rfl ?_
 intro O r (F : LMachine.Fns) hO hr (hF : F = LMachine.F0)
 cbv
 repeat' first | refine And.intro ?_ ?_ | (refine cbi (fun hb => ?_) (fun hb => ?_) <;> cbv)
 all_goals (subst hO hr hF; (try simp only [stdO, SS, sa, az] at *); (try simp only [nc] at *); (try simp only [onc] at *))
 all_goals (try simp only [LMachine.F0] at *)
 all_goals (try simp (disch := assumption) only [szN_app, List.cons_append, List.nil_append] at *)
 all_goals first | trivial | exact rfl | (refine ⟨by assumption, by omega, by first | omega | exact Int.le_trans (szN_le (by assumption)) h1⟩) | (refine ⟨by assumption, by assumption, by omega, by first | omega | exact Int.le_trans (szN_le (by assumption)) h1⟩) | (refine ⟨by assumption, by assumption, by assumption, by omega, by first | omega | exact Int.le_trans (szN_le (by assumption)) h1⟩) | (rw [szN_neg1 (by assumption)]) | exact congrArg (fun x => [DV.one (L.v (Value.int IntKind.i64 x))]) (szN_more (a := [a0]) (b := [a1, a2]) (by assumption)).symm | exact congrArg (fun x => [DV.one (L.v (Value.int IntKind.i64 x))]) (szN_more (a := [a0, a1]) (b := [a2]) (by assumption)).symm | trace_state
theorem c_laws_toMachine (a0 a1 a2 : List (List L)) (hp : Rw [.sl [tI]] a0 /\ Rw [tB] a1 /\ Rw [tI, tI] a2 /\ cntRs [a0, a1, a2] <= 1048576) : Ctr Tryz.prog 99 [.agg [.s 1 a0, .s 1 a1, .s 2 a2]] [.agg [.s 1 a0, .s 1 a1, .s 2 a2]] := by
 obtain ⟨w0, w1, w2, hlim⟩ := hp
 simp only [cntRs, Nat.add_zero] at hlim
 refine ctr_b LMachine.B tabOk mixed 13 _ [58] [.cell 2 58] Tryz.func99 rfl rfl rfl rfl rfl ?_
 intro O r (F : LMachine.Fns) hO hr (hF : F = LMachine.F0)
 cbv
 repeat' first | refine And.intro ?_ ?_ | (refine cbi (fun hb => ?_) (fun hb => ?_) <;> cbv)
 all_goals (subst hO hr hF; (try simp only [stdO, SS, sa, az] at *); (try simp only [nc] at *); (try simp only [onc] at *))
 all_goals (try simp only [LMachine.F0] at *)
 all_goals first | trivial | exact rfl | exact ⟨trivial, trivial⟩ | exact ⟨rfl, rfl⟩ | (refine ⟨by assumption, ?_⟩; (try simp only [cntRs, Nat.add_zero]); omega) | (refine ⟨by assumption, by assumption, ?_⟩; (try simp only [cntRs, Nat.add_zero]); omega) | (refine ⟨by assumption, by assumption, by assumption, ?_⟩; (try simp only [cntRs, Nat.add_zero]); omega) | ((try simp only [cntRs, Nat.add_zero]); omega) | trace_state
theorem c_laws_eqMachine (a0 a1 a2 : List (List L)) (d : DV) (hp : d = .agg [.s 1 a0, .s 1 a1, .s 2 a2] /\ Rw [.sl [tI]] a0 /\ Rw [tB] a1 /\ Rw [tI, tI] a2 /\ cntRs [a0, a1, a2] <= 1099511627776) : Ctr Tryz.prog 121 [.agg [.s 1 a0, .s 1 a1, .s 2 a2], d] [.one (.v (.bool true))] := by
 obtain ⟨rfl, w0, w1, w2, hlim⟩ := hp
 simp only [cntRs, Nat.add_zero] at hlim
 refine ctr_b LMachine.B tabOk mixed 17 _ [4] [.tmp 4] Tryz.func121 rfl rfl rfl rfl rfl ?_
 intro O r (F : LMachine.Fns) hO hr (hF : F = LMachine.F0)
 cbv
 repeat' first | refine And.intro ?_ ?_ | (refine cbi (fun hb => ?_) (fun hb => ?_) <;> cbv)
 all_goals (subst hO hr hF; (try simp only [stdO, SS, sa, az] at *); (try simp only [nc] at *); (try simp only [onc] at *))
 all_goals (try simp only [LMachine.F0] at *)
 all_goals first | trivial | exact rfl | exact absurd rfl hb | exact absurd rfl (by assumption) | (refine ⟨trivial, by assumption, ?_⟩; (try simp only [cntRs, Nat.add_zero]); omega) | (refine ⟨trivial, by assumption, by assumption, ?_⟩; (try simp only [cntRs, Nat.add_zero]); omega) | (refine ⟨trivial, by assumption, by assumption, by assumption, ?_⟩; (try simp only [cntRs, Nat.add_zero]); omega) | (refine ⟨trivial, ?_⟩; (try simp only [cntRs, Nat.add_zero]); omega) | trace_state
namespace LKernel
structure Fns where
 szN : List (List (List L)) -> Int -> Int
def F0 : Fns := ⟨szN0⟩
def ct (F : Fns) : CT := fun f ds => match f with
 | 90 => match ds with
   | [.agg [.s 1 a0, .s 1 a1, .s 2 a2], .one (.v (.int .i64 left))] => some (fun _ => Rw [.sl [tI]] a0 /\ Rw [tB] a1 /\ Rw [tI, tI] a2 /\ 0 <= left /\ left <= 1048576, [.one (.v (.int .i64 (F.szN [a0, a1, a2] left)))])
   | _ => none
 | 99 => match ds with
   | [.agg [.s 1 a0, .s 1 a1, .s 2 a2]] => some (fun _ => Rw [.sl [tI]] a0 /\ Rw [tB] a1 /\ Rw [tI, tI] a2 /\ cntRs [a0, a1, a2] <= 1048576, [.agg [.s 1 a0, .s 1 a1, .s 2 a2]])
   | _ => none
 | 121 => match ds with
   | [.agg [.s 1 a0, .s 1 a1, .s 2 a2], d] => some (fun _ => d = .agg [.s 1 a0, .s 1 a1, .s 2 a2] /\ Rw [.sl [tI]] a0 /\ Rw [tB] a1 /\ Rw [tI, tI] a2 /\ cntRs [a0, a1, a2] <= 1099511627776, [.one (.v (.bool true))])
   | _ => none
 | 91 => match ds with
   | [.one (.s 1 es), .one (.v (.int .i64 left))] => some (fun _ => Rw [tI] es /\ 0 <= left /\ left <= 1048576, [.one (.v (.int .i64 (F.szN [es] left)))])
   | _ => none
 | 100 => match ds with
   | [.one (.s 1 es)] => some (fun _ => Rw [tI] es /\ cntE es <= 1048576, [.one (.s 1 es)])
   | _ => none
 | 9 => match ds with
   | [.one (.s 1 es), d] => some (fun _ => d = .one (.s 1 es) /\ Rw [tI] es /\ cntE es <= 1099511627776, [.one (.v (.bool true))])
   | _ => none
 | _ => none
theorem ct_ok : CTok Tryz.prog (ct F0) := by
 intro f ds pre res h hp
 unfold ct at h
 split at h <;> (try split at h) <;> cases h
 exact c_laws_szMachine _ _ _ _ hp
 exact c_laws_toMachine _ _ _ hp
 exact c_laws_eqMachine _ _ _ _ hp
 exact c_laws_szIntS _ _ hp
 exact c_laws_toIntS _ hp
 exact c_laws_eqIntS _ _ hp
def B : TB Tryz.prog := tb ct_ok
end LKernel
theorem c_laws_szKernel (a0 a1 a2 : List (List L)) (a3 : Int) (a4 : List (List L)) (left : Int) (hp : Rw [.sl [tI]] a0 /\ Rw [tB] a1 /\ Rw [tI, tI] a2 /\ Rw [tI] a4 /\ 0 <= left /\ left <= 1048576) : Ctr Tryz.prog 16 [.agg [.s 1 a0, .s 1 a1, .s 2 a2, .v (.int .i64 a3), .s 1 a4], .one (.v (.int .i64 left))] [.one (.v (.int .i64 (szN0 [a0, a1, a2, a4] left)))] := by
 obtain ⟨w0, w1, w2, w3, h0, h1⟩ := hp
 refine ctr_b LKernel.B tabOk mixed 18 _ [3] [.tmp 4] Tryz.func16 rfl rfl rfl rfl rfl ?_
 intro O r (F : LKernel.Fns) hO hr (hF : F = LKernel.F0)
 cbv
 repeat' first | refine And.intro ?_ ?_ | (refine cbi (fun hb => ?_) (fun hb => ?_) <;> cbv)
 all_goals (subst hO hr hF; (try simp only [stdO, SS, sa, az] at *); (try simp only [nc] at *); (try simp only [onc] at *))
 all_goals (try simp only [LKernel.F0] at *)
 all_goals (try simp (disch := assumption) only [szN_app, List.cons_append, List.nil_append] at *)
 all_goals first | trivial | exact rfl | (refine ⟨by assumption, by omega, by first | omega | exact Int.le_trans (szN_le (by assumption)) h1⟩) | (refine ⟨by assumption, by assumption, by omega, by first | omega | exact Int.le_trans (szN_le (by assumption)) h1⟩) | (refine ⟨by assumption, by assumption, by assumption, by omega, by first | omega | exact Int.le_trans (szN_le (by assumption)) h1⟩) | (refine ⟨by assumption, by assumption, by assumption, by assumption, by omega, by first | omega | exact Int.le_trans (szN_le (by assumption)) h1⟩) | (rw [szN_neg1 (by assumption)]) | exact congrArg (fun x => [DV.one (L.v (Value.int IntKind.i64 x))]) (szN_more (a := [a0]) (b := [a1, a2, a4]) (by assumption)).symm | exact congrArg (fun x => [DV.one (L.v (Value.int IntKind.i64 x))]) (szN_more (a := [a0, a1]) (b := [a2, a4]) (by assumption)).symm | exact congrArg (fun x => [DV.one (L.v (Value.int IntKind.i64 x))]) (szN_more (a := [a0, a1, a2]) (b := [a4]) (by assumption)).symm | trace_state
theorem c_laws_toKernel (a0 a1 a2 : List (List L)) (a3 : Int) (a4 : List (List L)) (hp : Rw [.sl [tI]] a0 /\ Rw [tB] a1 /\ Rw [tI, tI] a2 /\ Rw [tI] a4 /\ cntRs [a0, a1, a2, a4] <= 1048576) : Ctr Tryz.prog 28 [.agg [.s 1 a0, .s 1 a1, .s 2 a2, .v (.int .i64 a3), .s 1 a4]] [.agg [.s 1 a0, .s 1 a1, .s 2 a2, .v (.int .i64 a3), .s 1 a4]] := by
 obtain ⟨w0, w1, w2, w3, hlim⟩ := hp
 simp only [cntRs, Nat.add_zero] at hlim
 refine ctr_b LKernel.B tabOk mixed 16 _ [60] [.cell 2 60] Tryz.func28 rfl rfl rfl rfl rfl ?_
 intro O r (F : LKernel.Fns) hO hr (hF : F = LKernel.F0)
 cbv
 repeat' first | refine And.intro ?_ ?_ | (refine cbi (fun hb => ?_) (fun hb => ?_) <;> cbv)
 all_goals (subst hO hr hF; (try simp only [stdO, SS, sa, az] at *); (try simp only [nc] at *); (try simp only [onc] at *))
 all_goals (try simp only [LKernel.F0] at *)
 all_goals first | trivial | exact rfl | exact ⟨trivial, trivial⟩ | exact ⟨rfl, rfl⟩ | (refine ⟨by assumption, ?_⟩; (try simp only [cntRs, Nat.add_zero]); omega) | (refine ⟨by assumption, by assumption, ?_⟩; (try simp only [cntRs, Nat.add_zero]); omega) | (refine ⟨by assumption, by assumption, by assumption, ?_⟩; (try simp only [cntRs, Nat.add_zero]); omega) | (refine ⟨by assumption, by assumption, by assumption, by assumption, ?_⟩; (try simp only [cntRs, Nat.add_zero]); omega) | ((try simp only [cntRs, Nat.add_zero]); omega) | trace_state
theorem c_laws_eqKernel (a0 a1 a2 : List (List L)) (a3 : Int) (a4 : List (List L)) (d : DV) (hp : d = .agg [.s 1 a0, .s 1 a1, .s 2 a2, .v (.int .i64 a3), .s 1 a4] /\ Rw [.sl [tI]] a0 /\ Rw [tB] a1 /\ Rw [tI, tI] a2 /\ Rw [tI] a4 /\ cntRs [a0, a1, a2, a4] <= 1099511627776) : Ctr Tryz.prog 45 [.agg [.s 1 a0, .s 1 a1, .s 2 a2, .v (.int .i64 a3), .s 1 a4], d] [.one (.v (.bool true))] := by
 obtain ⟨rfl, w0, w1, w2, w3, hlim⟩ := hp
 simp only [cntRs, Nat.add_zero] at hlim
 refine ctr_b LKernel.B tabOk mixed 22 _ [4] [.tmp 4] Tryz.func45 rfl rfl rfl rfl rfl ?_
 intro O r (F : LKernel.Fns) hO hr (hF : F = LKernel.F0)
 cbv
 repeat' first | refine And.intro ?_ ?_ | (refine cbi (fun hb => ?_) (fun hb => ?_) <;> cbv)
 all_goals (subst hO hr hF; (try simp only [stdO, SS, sa, az] at *); (try simp only [nc] at *); (try simp only [onc] at *))
 all_goals (try simp only [LKernel.F0] at *)
 all_goals first | trivial | exact rfl | exact absurd rfl hb | exact absurd rfl (by assumption) | (refine ⟨trivial, by assumption, ?_⟩; (try simp only [cntRs, Nat.add_zero]); omega) | (refine ⟨trivial, by assumption, by assumption, ?_⟩; (try simp only [cntRs, Nat.add_zero]); omega) | (refine ⟨trivial, by assumption, by assumption, by assumption, ?_⟩; (try simp only [cntRs, Nat.add_zero]); omega) | (refine ⟨trivial, by assumption, by assumption, by assumption, by assumption, ?_⟩; (try simp only [cntRs, Nat.add_zero]); omega) | (refine ⟨trivial, ?_⟩; (try simp only [cntRs, Nat.add_zero]); omega) | trace_state
end Go.V