/-
  Contracts, by evaluation.
-/
import Derived.Test.YtniaaknbbceigaaGreatS10
import Derived.Test.YtniaaknbbceigaaGreatHA
set_option linter.all false
namespace Go.V
open Go Go.Proofs
set_option maxRecDepth 1000000
set_option maxHeartbeats 8000000
namespace R0
structure Fns where
 no : Unit
def F0 : Fns := ⟨()⟩
def B : TB Tryz.prog := {Φ := Fns, F0 := F0}
end R0
theorem aC (x a b : Int) (hp : True) : aO Tryz.prog 152 [.one (.v (.int .i64 x)), .one (.v (.int .i64 a)), .one (.v (.int .i64 b))] [.one (.v (.bool (inR x a b)))] := by
 refine aj R0.B ai mixed 15 _ [4] [.tmp 6] Tryz.func152 rfl rfl rfl rfl rfl ?_;intro O r (F : R0.Fns) hO hr (hF : F = R0.F0);cbv
 repeat' first | refine And.intro ?_ ?_ | (refine aK (fun hb => ?_) (fun hb => ?_) <;> cbv)
 all_goals (subst hO hr hF; (try simp only [ah, SS, sa, az] at *); (try simp only [nc] at *); (try simp only [aF] at *))
 all_goals refine af ?_
 ·exact cR (by rw [bc]; simp only [SS]; omega)
 ·exact (ji.2 (by omega)).symm
theorem aN (x a b : Int) (hp : True) : aO Tryz.prog 126 [.one (.v (.int .i64 x)), .one (.v (.int .i64 a)), .one (.v (.int .i64 b))] [.one (.v (.bool (inR x a b)))] := by
 refine aj R0.B ai mixed 15 _ [4] [.tmp 6] Tryz.func126 rfl rfl rfl rfl rfl ?_;intro O r (F : R0.Fns) hO hr (hF : F = R0.F0);cbv
 repeat' first | refine And.intro ?_ ?_ | (refine aK (fun hb => ?_) (fun hb => ?_) <;> cbv)
 all_goals (subst hO hr hF; (try simp only [ah, SS, sa, az] at *); (try simp only [nc] at *); (try simp only [aF] at *))
 all_goals refine af ?_
 ·exact cR (by rw [bc]; simp only [SS]; omega)
 ·exact (ji.2 (by omega)).symm
namespace F4
structure Fns where
 inR : Int -> Int -> Int -> Bool
def F0 : Fns := ⟨inR⟩
def ct (F : Fns) : CT := fun f ds => match f, ds with
 | 152, [.one (.v (.int .i64 x)), .one (.v (.int .i64 a)), .one (.v (.int .i64 b))] => some (fun _ => True, [.one (.v (.bool (F.inR x a b)))])
 | 126, [.one (.v (.int .i64 x)), .one (.v (.int .i64 a)), .one (.v (.int .i64 b))] => some (fun _ => True, [.one (.v (.bool (F.inR x a b)))])
 | _, _ => none
theorem am : aV Tryz.prog (ct F0) := by
 intro f ds pre res h hp;unfold ct at h;split at h <;> (try split at h) <;> cases h
 exact aC _ _ _ hp;exact aN _ _ _ hp
def B : TB Tryz.prog := tb am
end F4
theorem cS (k : Int) (hp : True) : aO Tryz.prog 187 [.one (.v (.int .i64 k))] [.one (.v (.bool (inR k 0 3)))] := by
 refine aj F4.B ai mixed 5 _ [4] [.tmp 2] Tryz.func187 rfl rfl rfl rfl rfl ?_;intro O r (F : F4.Fns) hO hr (hF : F = F4.F0);cbv
 repeat' first | refine And.intro ?_ ?_ | (refine aK (fun hb => ?_) (fun hb => ?_) <;> cbv)
 all_goals (subst hO hr hF; (try simp only [ah, SS, sa, az] at *); (try simp only [nc] at *); (try simp only [aF] at *))
 all_goals first | trivial | exact rfl | trace_state
namespace F5
structure Fns where
 inR : Int -> Int -> Int -> Bool
def F0 : Fns := ⟨inR⟩
def ct (F : Fns) : CT := fun f ds => match f, ds with
 | 187, [.one (.v (.int .i64 k))] => some (fun _ => True, [.one (.v (.bool (F.inR k 0 3)))])
 | 126, [.one (.v (.int .i64 x)), .one (.v (.int .i64 a)), .one (.v (.int .i64 b))] => some (fun _ => True, [.one (.v (.bool (F.inR x a b)))])
 | _, _ => none
theorem am : aV Tryz.prog (ct F0) := by
 intro f ds pre res h hp;unfold ct at h;split at h <;> (try split at h) <;> cases h
 exact cS _ hp;exact aN _ _ _ hp
def B : TB Tryz.prog := tb am
end F5
theorem cH (k : Int) (hp : True) : aO Tryz.prog 95 [.one (.v (.int .i64 k))] [.one (.v (.int .i64 (clsSz k)))] := by
 refine aj F5.B ai mixed 8 _ [3] [.tmp 2] Tryz.func95 rfl rfl rfl rfl rfl ?_;intro O r (F : F5.Fns) hO hr (hF : F = F5.F0);cbv
 repeat' first | refine And.intro ?_ ?_ | (refine aK (fun hb => ?_) (fun hb => ?_) <;> cbv)
 all_goals (subst hO hr hF; (try simp only [ah, SS, sa, az] at *); (try simp only [nc] at *); (try simp only [aF] at *))
 all_goals (try simp only [F5.F0] at *)
 all_goals first | trivial | exact ba (DU (by assumption)).symm | (refine ba ?_; rw [zF (by assumption)]) | (rw [bc] at *; omega) | trace_state
theorem dO (k : Int) (hp : True) : aO Tryz.prog 76 [.one (.v (.int .i64 k))] [.one (.v (.int .i64 (clsSz k)))] := by
 refine aj F5.B ai mixed 9 _ [3] [.tmp 2] Tryz.func76 rfl rfl rfl rfl rfl ?_;intro O r (F : F5.Fns) hO hr (hF : F = F5.F0);cbv
 repeat' first | refine And.intro ?_ ?_ | (refine aK (fun hb => ?_) (fun hb => ?_) <;> cbv)
 all_goals (subst hO hr hF; (try simp only [ah, SS, sa, az] at *); (try simp only [nc] at *); (try simp only [aF] at *))
 all_goals (try simp only [F5.F0] at *)
 all_goals (try rw [DW (by assumption)] at *)
 all_goals first | trivial | exact ba (DU (by assumption)).symm | (refine ba ?_; rw [zF (by assumption)]) | (rw [bc] at *; omega) | trace_state
namespace F6
structure Fns where
 inR : Int -> Int -> Int -> Bool
 clsSz : Int -> Int
def F0 : Fns := ⟨inR, clsSz⟩
def ct (F : Fns) : CT := fun f ds => match f, ds with
 | 152, [.one (.v (.int .i64 x)), .one (.v (.int .i64 a)), .one (.v (.int .i64 b))] => some (fun _ => True, [.one (.v (.bool (F.inR x a b)))])
 | 126, [.one (.v (.int .i64 x)), .one (.v (.int .i64 a)), .one (.v (.int .i64 b))] => some (fun _ => True, [.one (.v (.bool (F.inR x a b)))])
 | 95, [.one (.v (.int .i64 k))] => some (fun _ => True, [.one (.v (.int .i64 (F.clsSz k)))])
 | _, _ => none
theorem am : aV Tryz.prog (ct F0) := by
 intro f ds pre res h hp;unfold ct at h;split at h <;> (try split at h) <;> cases h
 exact aC _ _ _ hp;exact aN _ _ _ hp;exact cH _ hp
def B : TB Tryz.prog := tb am
end F6
theorem ou (s : Int) (hp : True) : aO Tryz.prog 94 [.one (.v (.int .i64 s))] [.one (.v (.int .i64 (clsOf s)))] := by
 refine aj F6.B ai mixed 14 _ [3] [.tmp 2] Tryz.func94 rfl rfl rfl rfl rfl ?_;intro O r (F : F6.Fns) hO hr (hF : F = F6.F0);cbv
 repeat' first | refine And.intro ?_ ?_ | (refine aK (fun hb => ?_) (fun hb => ?_) <;> cbv) | (refine ⟨[0, 3], [], Int, fun k => [.reg 3 (.one (.v (.int .i64 k)))], fun k => 0 <= k /\ k <= 3 /\ (k = 0 \/ clsSz (k - 1) < s), fun k => (3 - k).toNat, ⟨0, ?_, ?_⟩, ?_⟩; rotate_left; (focus (cbv; done)); intro k hk; replace hk : 0 <= k /\ k <= 3 /\ (k = 0 \/ clsSz (k - 1) < s) := hk; obtain ⟨k0, k1, k2⟩ := hk; cbv) | (refine aa (O.ar .add .i64 k 1) ?_ ?_ ?_; rotate_left 2; focus (cbv; done))
 all_goals (subst hO hr hF; (try simp only [ah, SS, sa, az] at *); (try simp only [nc] at *); (try simp only [aF] at *))
 all_goals (try simp only [F6.F0] at *)
 all_goals (try simp only [bc, ji] at *)
 all_goals (try rw [bK (by omega) (by omega)])
 all_goals first | trivial | omega | exact xi (by omega) (by assumption) (by omega) | (have := xi (k := k) (s := s) (by omega) (by assumption) (by omega); omega) | exact ba (DR (by omega)).symm | exact ba (zA (by omega) (by assumption) (by omega) (by assumption)).symm | exact .inl trivial | exact .inl rfl | (rw [show k + 1 - 1 = k by omega]; exact .inr (by assumption)) | trace_state
theorem o6 (s : Int) (hp : True) : aO Tryz.prog 87 [.one (.v (.int .i64 s))] [.one (.v (.int .i64 (clsOf s)))] := by
 refine aj F6.B ai mixed 15 _ [3] [.tmp 2] Tryz.func87 rfl rfl rfl rfl rfl ?_;intro O r (F : F6.Fns) hO hr (hF : F = F6.F0);cbv
 repeat' first | refine And.intro ?_ ?_ | (refine aK (fun hb => ?_) (fun hb => ?_) <;> cbv) | (refine ⟨[0, 3], [], Int, fun k => [.reg 3 (.one (.v (.int .i64 k)))], fun k => 0 <= k /\ k <= 3 /\ (k = 0 \/ clsSz (k - 1) < s), fun k => (3 - k).toNat, ⟨0, ?_, ?_⟩, ?_⟩; rotate_left; (focus (cbv; done)); intro k hk; replace hk : 0 <= k /\ k <= 3 /\ (k = 0 \/ clsSz (k - 1) < s) := hk; obtain ⟨k0, k1, k2⟩ := hk; cbv) | (refine aa (O.ar .add .i64 k 1) ?_ ?_ ?_; rotate_left 2; focus (cbv; done))
 all_goals (subst hO hr hF; (try simp only [ah, SS, sa, az] at *); (try simp only [nc] at *); (try simp only [aF] at *))
 all_goals (try simp only [F6.F0] at *)
 all_goals (try rw [DW (k := k) (by rw [bc]; omega)] at *)
 all_goals (try rw [zF (k := k) (by rw [bc]; omega)] at *)
 all_goals (try simp only [bc, ji] at *)
 all_goals (try rw [bK (by omega) (by omega)])
 all_goals first | trivial | omega | exact xi (by omega) (by assumption) (by omega) | (have := xi (k := k) (s := s) (by omega) (by assumption) (by omega); omega) | exact ba (DR (by omega)).symm | exact ba (zA (by omega) (by assumption) (by omega) (by assumption)).symm | exact .inl trivial | exact .inl rfl | (rw [show k + 1 - 1 = k by omega]; exact .inr (by assumption)) | trace_state
theorem mD (d0 d1 d2 pg : Int) (hp : True) : aO Tryz.prog 228 [.agg [.v (.int .i64 d0), .v (.int .i64 d1), .v (.int .i64 d2)], .ptr [.v (.int .i64 pg)]] [.one (.v (.bool (eqB d0 pg)))] := by
 refine aj R0.B ai mixed 8 _ [4] [.tmp 3] Tryz.func228 rfl rfl rfl rfl rfl ?_;intro O r (F : R0.Fns) hO hr (hF : F = R0.F0);cbv
 repeat' first | refine And.intro ?_ ?_ | (refine aK (fun hb => ?_) (fun hb => ?_) <;> cbv)
 all_goals (subst hO hr hF; (try simp only [ah, SS, sa, az] at *); (try simp only [nc] at *); (try simp only [aF] at *))
 all_goals first
  | (show (_ : List DV) = _
     first
      | exact af (lW (by assumption)).symm
      | exact af (lV (by assumption)).symm
      | exact af (cR (by unfold eqB; simp only [SS, decide_eq_true_eq]))
      | done)
  | trivial
  | trace_state
namespace W3
structure Fns where
 eqB : Int -> Int -> Bool
def F0 : Fns := ⟨eqB⟩
def ct (F : Fns) : CT := fun f ds => match f, ds with
 | 228, [.agg [.v (.int .i64 d0), .v (.int .i64 d1), .v (.int .i64 d2)], .ptr [.v (.int .i64 pg)]] => some (fun _ => True, [.one (.v (.bool (F.eqB d0 pg)))])
 | _, _ => none
theorem am : aV Tryz.prog (ct F0) := by
 intro f ds pre res h hp;unfold ct at h;split at h <;> (try split at h) <;> cases h
 exact mD _ _ _ _ hp
def B : TB Tryz.prog := tb am
end W3
theorem bB (os : List (List L)) (id : Int) (hp : Rw [tI, tI, tI] os /\ os.length <= 1099511627776) : aO Tryz.prog 227 [.one (.s 3 os), .fn 228 [[.v (.int .i64 id)]]] [.one (.v (.int .i64 (spI os id)))] := by
 obtain ⟨hw, hn⟩ := hp;refine aj W3.B ai mixed 19 _ [3] [.tmp 4] Tryz.func227 rfl rfl rfl rfl rfl ?_;intro O r (F : W3.Fns) hO hr (hF : F = W3.F0);cbv
 repeat' first | refine And.intro ?_ ?_ | (refine aK (fun hb => ?_) (fun hb => ?_) <;> cbv) | (refine ⟨[0, 1, 7, 8], [0], Int, fun i => [.reg 8 (.one (.v (.int .i64 i)))], fun i => 0 <= i /\ i <= ((os.length : Nat) : Int) /\ upto (bP (isSp os id)) i, fun i => (os.length) - i.toNat, ⟨0, ?_, ?_⟩, ?_⟩; rotate_left; (focus (cbv; done)); intro i hi; replace hi : 0 <= i /\ i <= ((os.length : Nat) : Int) /\ upto (bP (isSp os id)) i := hi; obtain ⟨i0, i1, i2⟩ := hi; cbv) | (refine aa (O.ar .add .i64 i 1) ?_ ?_ ?_; rotate_left 2; focus (cbv; done))
 all_goals (subst hO hr hF; (try simp only [ah, SS, sa, az] at *); (try simp only [nc] at *); (try simp only [aF] at *))
 all_goals (try simp only [W3.F0] at *)
 all_goals try rw [bK (by omega) (by omega)]
 all_goals first
  | (show (_ : List DV) = _
     first
      | exact ba (cy i2 i0 (by assumption) (show isSp os id i = true from by assumption)).symm
      | exact ba (cy i2 i0 (by assumption) (show isSp os id i = true from lW (by assumption))).symm
      | exact ba (cO i2 (by assumption)).symm
      | done)
  | omega
  | (refine ⟨by omega, by omega, (Rw.eta (by first | assumption | exact Rw.sub (by first | assumption | exact Rw.sub (by assumption) (by omega) rfl) (by omega) rfl) (by omega) (by omega)).trans ?_⟩; rfl)
  | (show (lk _ _).isSome = true; kernel_rfl)
  | exact aG
  | exact aw i2 (eO (show isSp os id i = false from by assumption))
  | exact aw i2 (eO (show isSp os id i = false from lV (by assumption)))
  | exact ⟨trivial, trivial⟩
  | trivial
  | trace_state
namespace W4
structure Fns where
 spI : List (List L) -> Int -> Int
def F0 : Fns := ⟨spI⟩
def ct (F : Fns) : CT := fun f ds => match f, ds with
 | 227, [.one (.s 3 os), .fn 228 [[.v (.int .i64 id)]]] => some (fun _ => Rw [tI, tI, tI] os /\ os.length <= 1099511627776, [.one (.v (.int .i64 (F.spI os id)))])
 | _, _ => none
theorem am : aV Tryz.prog (ct F0) := by
 intro f ds pre res h hp;unfold ct at h;split at h <;> (try split at h) <;> cases h
 exact bB _ _ hp
def B : TB Tryz.prog := tb am
end W4
theorem qy (a0 a1 a2 : List (List L)) (a3 : Int) (a4 a5 a6 a7 a8 a9 a10 a11 : List (List L)) (a12 : Int) (a13 : List (List L)) (a14 a15 a16 a17 : Int) (a18 : Bool) (a19 a20 : Int) (a21 : List (List L)) (a22 a23 pg : Int) (hp : Rw [tI, tI, tI] a6 /\ a6.length <= 1099511627776) : aO Tryz.prog 154 [.agg [.s 1 a0, .s 1 a1, .s 2 a2, .v (.int .i64 a3), .s 1 a4, .s 2 a5, .s 3 a6, .s 3 a7, .s 4 a8, .s 1 a9, .s 1 a10, .s 1 a11, .v (.int .i64 a12), .s 3 a13, .v (.int .i64 a14), .v (.int .i64 a15), .v (.int .i64 a16), .v (.int .i64 a17), .v (.bool a18), .v (.int .i64 a19), .v (.int .i64 a20), .s 1 a21, .v (.int .i64 a22), .v (.int .i64 a23)], .one (.v (.int .i64 pg))] [.one (.v (.int .i64 (spI a6 pg)))] := by
 refine aj W4.B ai mixed 9 _ [3] [.tmp 4] Tryz.func154 rfl rfl rfl rfl rfl ?_;intro O r (F : W4.Fns) hO hr (hF : F = W4.F0);cbv
 repeat' first | refine And.intro ?_ ?_ | (refine aK (fun hb => ?_) (fun hb => ?_) <;> cbv)
 all_goals (subst hO hr hF; (try simp only [ah, SS, sa, az] at *); (try simp only [nc] at *); (try simp only [aF] at *))
 all_goals first | exact hp | exact rfl | trivial | trace_state
theorem jh (a0 a1 a2 : List (List L)) (a3 : Int) (a4 a5 a6 a7 a8 a9 a10 a11 : List (List L)) (a12 : Int) (a13 : List (List L)) (a14 a15 a16 a17 : Int) (a18 : Bool) (a19 a20 : Int) (a21 : List (List L)) (a22 a23 pg : Int) (hp : Rw [tI, tI, tI] a6 /\ a6.length <= 1099511627776) : aO Tryz.prog 73 [.agg [.s 1 a0, .s 1 a1, .s 2 a2, .v (.int .i64 a3), .s 1 a4, .s 2 a5, .s 3 a6, .s 3 a7, .s 4 a8, .s 1 a9, .s 1 a10, .s 1 a11, .v (.int .i64 a12), .s 3 a13, .v (.int .i64 a14), .v (.int .i64 a15), .v (.int .i64 a16), .v (.int .i64 a17), .v (.bool a18), .v (.int .i64 a19), .v (.int .i64 a20), .s 1 a21, .v (.int .i64 a22), .v (.int .i64 a23)], .one (.v (.int .i64 pg))] [.one (.v (.int .i64 (spI a6 pg)))] := by
 obtain ⟨hw, hn⟩ := hp;refine aj R0.B ai mixed 22 _ [3] [.tmp 4] Tryz.func73 rfl rfl rfl rfl rfl ?_;intro O r (F : R0.Fns) hO hr (hF : F = R0.F0);cbv
 repeat' first | refine And.intro ?_ ?_ | (refine aK (fun hb => ?_) (fun hb => ?_) <;> cbv) | (refine ⟨[1, 2, 5], [2], Int, fun i => [.reg 5 (.one (.v (.int .i64 i)))], fun i => 0 <= i /\ i <= ((a6.length : Nat) : Int) /\ upto (bP (isSp a6 pg)) i, fun i => (a6.length) - i.toNat, ⟨0, ?_, ?_⟩, ?_⟩; rotate_left; (focus (cbv; done)); intro i hi; replace hi : 0 <= i /\ i <= ((a6.length : Nat) : Int) /\ upto (bP (isSp a6 pg)) i := hi; obtain ⟨i0, i1, i2⟩ := hi; cbv) | (refine aa (O.ar .add .i64 i 1) ?_ ?_ ?_; rotate_left 2; focus (cbv; done))
 all_goals (subst hO hr hF; (try simp only [ah, SS, sa, az] at *); (try simp only [nc] at *); (try simp only [aF] at *))
 all_goals (try simp only [R0.F0] at *)
 all_goals try rw [bK (by omega) (by omega)]
 all_goals first
  | (show (_ : List DV) = _
     first
      | exact ba (cy i2 i0 (by assumption) (show isSp a6 pg i = true from by assumption)).symm
      | exact ba (cy i2 i0 (by assumption) (show isSp a6 pg i = true from lW (by assumption))).symm
      | exact ba (cO i2 (by assumption)).symm
      | done)
  | omega
  | (refine ⟨by omega, by omega, (Rw.eta (by first | assumption | exact Rw.sub (by first | assumption | exact Rw.sub (by assumption) (by omega) rfl) (by omega) rfl) (by omega) (by omega)).trans ?_⟩; rfl)
  | (show (lk _ _).isSome = true; kernel_rfl)
  | exact aG
  | exact aw i2 (eO (show isSp a6 pg i = false from by assumption))
  | exact aw i2 (eO (show isSp a6 pg i = false from lV (by assumption)))
  | exact ⟨trivial, trivial⟩
  | trivial
  | trace_state
end Go.V