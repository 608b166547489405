/-
  Contracts, by evaluation.
-/
import Derived.Test.YtniaaknbbceigaaGreatS10
import Derived.Test.YtniaaknbbceigaaGreatHB
import Derived.Test.YtniaaknbbceigaaGreatLayLq
set_option linter.all false
namespace Go.V
open Go Go.Proofs
set_option maxRecDepth 1000000
set_option maxHeartbeats 8000000
namespace Ma0
structure Fns where
 inR : Int -> Int -> Int -> Bool
def F0 : Fns := ⟨inR⟩
def ct (F : Fns) : CT := fun f ds => match f, ds with
 | 152, [.one (.v (.int .i64 x)), .one (.v (.int .i64 a)), .one (.v (.int .i64 b))] => some (fun _ => True, [.one (.v (.bool (F.inR x a b)))])
 | 126, [.one (.v (.int .i64 x)), .one (.v (.int .i64 a)), .one (.v (.int .i64 b))] => some (fun _ => True, [.one (.v (.bool (F.inR x a b)))])
 | _, _ => none
theorem am : aV Tryz.prog (ct F0) := by
 intro f ds pre res h hp;unfold ct at h;split at h <;> (try split at h) <;> cases h
 exact aC _ _ _ hp;exact aN _ _ _ hp
def B : TB Tryz.prog := tb am
end Ma0
theorem oA (n a l : Int) (hp : 0 <= n /\ n <= 1099511627776) : aO Tryz.prog 214 [.one (.v (.int .i64 n)), .agg [.v (.int .i64 a), .v (.int .i64 l)]] [.one (.v (.bool (rngIn n a l)))] := by
 refine aj Ma0.B ai mixed 18 _ [4] [.tmp 4] Tryz.func214 rfl rfl rfl rfl rfl ?_;intro O r (F : Ma0.Fns) hO hr (hF : F = Ma0.F0);cbv
 repeat' first | refine And.intro ?_ ?_ | (refine aK (fun hb => ?_) (fun hb => ?_) <;> cbv)
 all_goals (subst hO hr hF; (try simp only [ah, SS, sa, az] at *); (try simp only [nc] at *); (try simp only [aF] at *))
 all_goals (try simp only [Ma0.F0] at *)
 all_goals (try have t := bc.1 hb)
 all_goals (try have z : bu .sub .i64 n l = n - l := ce (by omega))
 all_goals (try simp only [z] at *)
 all_goals first | (show (_ : List DV) = _; refine af ?_; unfold rngIn; simp [hb]; done) | exact True.intro | done
theorem sv (n a l : Int) (hp : 0 <= n /\ n <= 1099511627776) : aO Tryz.prog 199 [.one (.v (.int .i64 n)), .agg [.v (.int .i64 a), .v (.int .i64 l)]] [.one (.v (.bool (rngIn n a l)))] := by
 refine aj Ma0.B ai mixed 18 _ [4] [.tmp 4] Tryz.func199 rfl rfl rfl rfl rfl ?_;intro O r (F : Ma0.Fns) hO hr (hF : F = Ma0.F0);cbv
 repeat' first | refine And.intro ?_ ?_ | (refine aK (fun hb => ?_) (fun hb => ?_) <;> cbv)
 all_goals (subst hO hr hF; (try simp only [ah, SS, sa, az] at *); (try simp only [nc] at *); (try simp only [aF] at *))
 all_goals (try simp only [Ma0.F0] at *)
 all_goals (try have t := bc.1 hb)
 all_goals (try have z : bu .sub .i64 n l = n - l := ce (by omega))
 all_goals (try simp only [z] at *)
 all_goals first | (show (_ : List DV) = _; refine af ?_; unfold rngIn; simp [hb]; done) | exact True.intro | done
namespace Ma1
structure Fns where
 inR : Int -> Int -> Int -> Bool
 rngIn : Int -> Int -> Int -> Bool
def F0 : Fns := ⟨inR, rngIn⟩
def ct (F : Fns) : CT := fun f ds => match f, ds with
 | 152, [.one (.v (.int .i64 x)), .one (.v (.int .i64 a)), .one (.v (.int .i64 b))] => some (fun _ => True, [.one (.v (.bool (F.inR x a b)))])
 | 126, [.one (.v (.int .i64 x)), .one (.v (.int .i64 a)), .one (.v (.int .i64 b))] => some (fun _ => True, [.one (.v (.bool (F.inR x a b)))])
 | 214, [.one (.v (.int .i64 n)), .agg [.v (.int .i64 a), .v (.int .i64 l)]] => some (fun _ => 0 <= n /\ n <= 1099511627776, [.one (.v (.bool (F.rngIn n a l)))])
 | 199, [.one (.v (.int .i64 n)), .agg [.v (.int .i64 a), .v (.int .i64 l)]] => some (fun _ => 0 <= n /\ n <= 1099511627776, [.one (.v (.bool (F.rngIn n a l)))])
 | _, _ => none
theorem am : aV Tryz.prog (ct F0) := by
 intro f ds pre res h hp;unfold ct at h;split at h <;> (try split at h) <;> cases h
 exact aC _ _ _ hp;exact aN _ _ _ hp;exact oA _ _ _ hp;exact sv _ _ _ hp
def B : TB Tryz.prog := tb am
end Ma1
theorem mB (n : Int) (rs : List (List L)) (hp : 0 <= n /\ n <= 1099511627776 /\ Rw [tI, tI] rs /\ rs.length <= 1099511627776) : aO Tryz.prog 143 [.one (.v (.int .i64 n)), .one (.s 2 rs)] [.one (.v (.bool (rgOk n rs)))] := by
 obtain ⟨n0, n1, hw, hl⟩ := hp;refine aj Ma1.B ai mixed 43 _ [4] [.tmp 4] Tryz.func143 rfl rfl rfl rfl rfl ?_;intro O r (F : Ma1.Fns) hO hr (hF : F = Ma1.F0);cbv
 repeat' first | refine And.intro ?_ ?_ | (refine aK (fun hb => ?_) (fun hb => ?_) <;> cbv) | (refine ⟨[0, 1, 7, 8, 9], [], Int, fun i => [.reg 9 (.one (.v (.int .i64 i)))], fun i => 0 <= i /\ i <= ((rs.length : Nat) : Int) /\ upto (nF n rs) i, fun i => (rs.length) - i.toNat, ⟨0, ?_, ?_⟩, ?_⟩; rotate_left; (focus (cbv; done)); intro i hi; replace hi : 0 <= i /\ i <= ((rs.length : Nat) : Int) /\ upto (nF n rs) i := hi; obtain ⟨i0, i1, i2⟩ := hi; cbv) | (refine aa (O.ar .add .i64 i 1) ?_ ?_ ?_; rotate_left 2; focus (cbv; done))
 all_goals (subst hO hr hF; (try simp only [ah, SS, sa, az] at *); (try simp only [nc] at *); (try simp only [aF] at *))
 all_goals (try simp only [Ma1.F0] at *)
 all_goals try rw [bK (by omega) (by omega)]
 all_goals (try have z := p9 i0 (by omega))
 all_goals (try simp only [z] at *)
 all_goals first
  | (show (_ : List DV) = _
     first
      | (refine af ?_; symm; exact Bu i0 (by assumption) (by assumption))
      | (refine af ?_; symm; exact Bv i0 (by assumption) (by assumption) (by assumption))
      | (refine af ?_; exact Bt i2 (by omega))
      | (have q : false = true := (by assumption); cases q)
      | done)
  | omega
  | (refine ⟨by omega, by omega, (Rw.eta (by first | assumption | exact Rw.sub (by first | assumption | exact Rw.sub (by assumption) (by omega) rfl) (by omega) rfl) (by omega) (by omega)).trans ?_⟩; rfl)
  | (show au _ _ = true; kernel_rfl)
  | exact ⟨n0, n1⟩
  | exact aG
  | exact aw i2 (yb (by assumption) (by omega))
  | exact aw i2 (yc (by assumption) (by assumption))
  | exact True.intro
  | done
theorem nu (n : Int) (rs : List (List L)) (hp : 0 <= n /\ n <= 1099511627776 /\ Rw [tI, tI] rs /\ rs.length <= 1099511627776) : aO Tryz.prog 119 [.one (.v (.int .i64 n)), .one (.s 2 rs)] [.one (.v (.bool (rgOk n rs)))] := by
 obtain ⟨n0, n1, hw, hl⟩ := hp;refine aj Ma1.B ai mixed 46 _ [4] [.tmp 4] Tryz.func119 rfl rfl rfl rfl rfl ?_;intro O r (F : Ma1.Fns) hO hr (hF : F = Ma1.F0);cbv
 repeat' first | refine And.intro ?_ ?_ | (refine aK (fun hb => ?_) (fun hb => ?_) <;> cbv) | (refine ⟨[0, 1, 5], [], Int, fun i => [.reg 5 (.one (.v (.int .i64 i)))], fun i => 0 <= i /\ i <= ((rs.length : Nat) : Int) /\ upto (nF n rs) i, fun i => (rs.length) - i.toNat, ⟨0, ?_, ?_⟩, ?_⟩; rotate_left; (focus (cbv; done)); intro i hi; replace hi : 0 <= i /\ i <= ((rs.length : Nat) : Int) /\ upto (nF n rs) i := hi; obtain ⟨i0, i1, i2⟩ := hi; cbv) | (refine aa (O.ar .add .i64 i 1) ?_ ?_ ?_; rotate_left 2; focus (cbv; done))
 all_goals (subst hO hr hF; (try simp only [ah, SS, sa, az] at *); (try simp only [nc] at *); (try simp only [aF] at *))
 all_goals (try simp only [Ma1.F0] at *)
 all_goals try rw [bK (by omega) (by omega)]
 all_goals (try have z := p9 i0 (by omega))
 all_goals (try simp only [z] at *)
 all_goals first
  | (show (_ : List DV) = _
     first
      | (refine af ?_; symm; exact Bu i0 (by assumption) (by assumption))
      | (refine af ?_; symm; exact Bv i0 (by assumption) (by assumption) (by assumption))
      | (refine af ?_; exact Bt i2 (by omega))
      | (have q : false = true := (by assumption); cases q)
      | done)
  | omega
  | (refine ⟨by omega, by omega, (Rw.eta (by first | assumption | exact Rw.sub (by first | assumption | exact Rw.sub (by assumption) (by omega) rfl) (by omega) rfl) (by omega) (by omega)).trans ?_⟩; rfl)
  | (show au _ _ = true; kernel_rfl)
  | exact ⟨n0, n1⟩
  | exact aG
  | exact aw i2 (yb (by assumption) (by omega))
  | exact aw i2 (yc (by assumption) (by assumption))
  | exact True.intro
  | done
namespace Ma2
structure Fns where
 no : Unit
def F0 : Fns := ⟨()⟩
def B : TB Tryz.prog := {Φ := Fns, F0 := F0}
end Ma2
theorem jV (a l p : Int) (hp : True) : aO Tryz.prog 254 [.agg [.v (.int .i64 a), .v (.int .i64 l)], .ptr [.v (.int .i64 p)]] [.one (.v (.bool (rh1 a l p)))] := by
 refine aj Ma2.B ai mixed 17 _ [4] [.tmp 3] Tryz.func254 rfl rfl rfl rfl rfl ?_;intro O r (F : Ma2.Fns) hO hr (hF : F = Ma2.F0);cbv
 repeat' first | refine And.intro ?_ ?_ | (refine aK (fun hb => ?_) (fun hb => ?_) <;> cbv)
 all_goals (subst hO hr hF; (try simp only [ah, SS, sa, az] at *); (try simp only [nc] at *); (try simp only [aF] at *))
 all_goals first | (show (_ : List DV) = _; refine af ?_; unfold rh1; simp [hb]; done) | (show (_ : List DV) = _; refine af ?_; unfold rh1; rw [decide_eq_true hb]; rfl) | (show (_ : List DV) = _; refine af ?_; unfold rh1; rw [decide_eq_false (by omega)]; rfl) | exact True.intro | done
namespace Ma3
structure Fns where
 rh1 : Int -> Int -> Int -> Bool
def F0 : Fns := ⟨rh1⟩
def ct (F : Fns) : CT := fun f ds => match f, ds with
 | 254, [.agg [.v (.int .i64 a), .v (.int .i64 l)], .ptr [.v (.int .i64 p)]] => some (fun _ => True, [.one (.v (.bool (F.rh1 a l p)))])
 | _, _ => none
theorem am : aV Tryz.prog (ct F0) := by
 intro f ds pre res h hp;unfold ct at h;split at h <;> (try split at h) <;> cases h
 exact jV _ _ _ hp
def B : TB Tryz.prog := tb am
end Ma3
theorem bj (os : List (List L)) (id : Int) (hp : Rw [tI, tI] os /\ os.length <= 1099511627776) : aO Tryz.prog 265 [.one (.s 2 os), .fn 254 [[.v (.int .i64 id)]]] [.one (.v (.int .i64 (rhI os id)))] := by
 obtain ⟨hw, hn⟩ := hp;refine aj Ma3.B ai mixed 19 _ [3] [.tmp 4] Tryz.func265 rfl rfl rfl rfl rfl ?_;intro O r (F : Ma3.Fns) hO hr (hF : F = Ma3.F0);cbv
 repeat' first | refine And.intro ?_ ?_ | (refine aK (fun hb => ?_) (fun hb => ?_) <;> cbv) | (refine ⟨[0, 1, 7, 8], [0], Int, fun i => [.reg 8 (.one (.v (.int .i64 i)))], fun i => 0 <= i /\ i <= ((os.length : Nat) : Int) /\ upto (bP (kh os id)) i, fun i => (os.length) - i.toNat, ⟨0, ?_, ?_⟩, ?_⟩; rotate_left; (focus (cbv; done)); intro i hi; replace hi : 0 <= i /\ i <= ((os.length : Nat) : Int) /\ upto (bP (kh os id)) i := hi; obtain ⟨i0, i1, i2⟩ := hi; cbv) | (refine aa (O.ar .add .i64 i 1) ?_ ?_ ?_; rotate_left 2; focus (cbv; done))
 all_goals (subst hO hr hF; (try simp only [ah, SS, sa, az] at *); (try simp only [nc] at *); (try simp only [aF] at *))
 all_goals (try simp only [Ma3.F0] at *)
 all_goals try rw [bK (by omega) (by omega)]
 all_goals first
  | (show (_ : List DV) = _
     first
      | exact ba (cy i2 i0 (by assumption) (show kh os id i = true from by assumption)).symm
      | exact ba (cO i2 (by assumption)).symm
      | done)
  | omega
  | (refine ⟨by omega, by omega, (Rw.eta (by first | assumption | exact Rw.sub (by first | assumption | exact Rw.sub (by assumption) (by omega) rfl) (by omega) rfl) (by omega) (by omega)).trans ?_⟩; rfl)
  | (show (lk _ _).isSome = true; kernel_rfl)
  | exact aG
  | exact aw i2 (eO (show kh os id i = false from by assumption))
  | exact ⟨trivial, trivial⟩
  | trivial
  | done
namespace Ma4
structure Fns where
 rhI : List (List L) -> Int -> Int
def F0 : Fns := ⟨rhI⟩
def ct (F : Fns) : CT := fun f ds => match f, ds with
 | 265, [.one (.s 2 os), .fn 254 [[.v (.int .i64 id)]]] => some (fun _ => Rw [tI, tI] os /\ os.length <= 1099511627776, [.one (.v (.int .i64 (F.rhI os id)))])
 | _, _ => none
theorem am : aV Tryz.prog (ct F0) := by
 intro f ds pre res h hp;unfold ct at h;split at h <;> (try split at h) <;> cases h
 exact bj _ _ hp
def B : TB Tryz.prog := tb am
end Ma4
theorem bg (os : List (List L)) (id : Int) (hp : Rw [tI, tI] os /\ os.length <= 1099511627776) : aO Tryz.prog 253 [.one (.s 2 os), .fn 254 [[.v (.int .i64 id)]]] [.one (.v (.bool (rhB os id)))] := by
 refine aj Ma4.B ai mixed 9 _ [4] [.tmp 4] Tryz.func253 rfl rfl rfl rfl rfl ?_;intro O r (F : Ma4.Fns) hO hr (hF : F = Ma4.F0);cbv
 repeat' first | refine And.intro ?_ ?_ | (refine aK (fun hb => ?_) (fun hb => ?_) <;> cbv)
 all_goals (subst hO hr hF; (try simp only [ah, SS, sa, az] at *); (try simp only [nc] at *); (try simp only [aF] at *))
 all_goals (try simp only [Ma4.F0] at *)
 all_goals first
  | (show (_ : List DV) = _
     first
      | exact af (decide_eq_true (by assumption)).symm
      | exact af (decide_eq_false (by omega)).symm
      | exact af (cR (by unfold rhB; simp only [SS, decide_eq_true_eq]))
      | exact rfl
      | done)
  | exact hp
  | exact rfl
  | trivial
  | done
namespace Ma5
structure Fns where
 rhB : List (List L) -> Int -> Bool
def F0 : Fns := ⟨rhB⟩
def ct (F : Fns) : CT := fun f ds => match f, ds with
 | 253, [.one (.s 2 os), .fn 254 [[.v (.int .i64 id)]]] => some (fun _ => Rw [tI, tI] os /\ os.length <= 1099511627776, [.one (.v (.bool (F.rhB os id)))])
 | _, _ => none
theorem am : aV Tryz.prog (ct F0) := by
 intro f ds pre res h hp;unfold ct at h;split at h <;> (try split at h) <;> cases h
 exact bg _ _ hp
def B : TB Tryz.prog := tb am
end Ma5
theorem mA (os : List (List L)) (id : Int) (hp : Rw [tI, tI] os /\ os.length <= 1099511627776) : aO Tryz.prog 219 [.one (.s 2 os), .one (.v (.int .i64 id))] [.one (.v (.bool (rhB os id)))] := by
 refine aj Ma5.B ai mixed 8 _ [4] [.tmp 4] Tryz.func219 rfl rfl rfl rfl rfl ?_;intro O r (F : Ma5.Fns) hO hr (hF : F = Ma5.F0);cbv
 repeat' first | refine And.intro ?_ ?_ | (refine aK (fun hb => ?_) (fun hb => ?_) <;> cbv)
 all_goals (subst hO hr hF; (try simp only [ah, SS, sa, az] at *); (try simp only [nc] at *); (try simp only [aF] at *))
 all_goals first | exact hp | exact rfl | trivial | done
theorem nq (os : List (List L)) (id : Int) (hp : Rw [tI, tI] os /\ os.length <= 1099511627776) : aO Tryz.prog 203 [.one (.s 2 os), .one (.v (.int .i64 id))] [.one (.v (.bool (rhB os id)))] := by
 obtain ⟨hw, hn⟩ := hp;refine aj Ma2.B ai mixed 34 _ [4] [.tmp 4] Tryz.func203 rfl rfl rfl rfl rfl ?_;intro O r (F : Ma2.Fns) hO hr (hF : F = Ma2.F0);cbv
 repeat' first | refine And.intro ?_ ?_ | (refine aK (fun hb => ?_) (fun hb => ?_) <;> cbv) | (refine ⟨[0, 1, 5], [], Int, fun i => [.reg 5 (.one (.v (.int .i64 i)))], fun i => 0 <= i /\ i <= ((os.length : Nat) : Int) /\ upto (bP (kh os id)) i, fun i => (os.length) - i.toNat, ⟨0, ?_, ?_⟩, ?_⟩; rotate_left; (focus (cbv; done)); intro i hi; replace hi : 0 <= i /\ i <= ((os.length : Nat) : Int) /\ upto (bP (kh os id)) i := hi; obtain ⟨i0, i1, i2⟩ := hi; cbv) | (refine aa (O.ar .add .i64 i 1) ?_ ?_ ?_; rotate_left 2; focus (cbv; done))
 all_goals (subst hO hr hF; (try simp only [ah, SS, sa, az] at *); (try simp only [nc] at *); (try simp only [aF] at *))
 all_goals try rw [bK (by omega) (by omega)]
 all_goals first
  | (show (_ : List DV) = _
     first
      | (refine af ?_; symm; exact GH i2 i0 (by assumption) (by assumption) (by assumption))
      | (refine af ?_; symm; exact Jq i2 (by omega))
      | done)
  | omega
  | (refine ⟨by omega, by omega, (Rw.eta (by first | assumption | exact Rw.sub (by first | assumption | exact Rw.sub (by assumption) (by omega) rfl) (by omega) rfl) (by omega) (by omega)).trans ?_⟩; rfl)
  | (show au _ _ = true; kernel_rfl)
  | exact aG
  | exact aw i2 (Jo (by omega))
  | exact aw i2 (Jp (by omega))
  | exact True.intro
  | done
namespace Ma6
structure Fns where
 spOk : Int -> Int -> Int -> Bool
def F0 : Fns := ⟨spOk⟩
def ct (F : Fns) : CT := fun f ds => match f, ds with
 | 216, [.agg [.v (.int .i64 p), .v (.int .i64 k), .v (.int .i64 b)]] => some (fun _ => True, [.one (.v (.bool (F.spOk p k b)))])
 | 200, [.agg [.v (.int .i64 p), .v (.int .i64 k), .v (.int .i64 b)]] => some (fun _ => True, [.one (.v (.bool (F.spOk p k b)))])
 | _, _ => none
theorem am : aV Tryz.prog (ct F0) := by
 intro f ds pre res h hp;unfold ct at h;split at h <;> (try split at h) <;> cases h
 exact fh _ _ _ hp;exact ft _ _ _ hp
def B : TB Tryz.prog := tb am
end Ma6
theorem my (p1 k1 b1 p2 k2 b2 : Int) (hp : True) : aO Tryz.prog 220 [.agg [.v (.int .i64 p1), .v (.int .i64 k1), .v (.int .i64 b1)], .agg [.v (.int .i64 p2), .v (.int .i64 k2), .v (.int .i64 b2)]] [.one (.v (.bool (mshB p1 k1 b1 p2 k2 b2)))] := by
 refine aj Ma6.B ai mixed 33 _ [4] [.tmp 4] Tryz.func220 rfl rfl rfl rfl rfl ?_;intro O r (F : Ma6.Fns) hO hr (hF : F = Ma6.F0);cbv
 repeat' first | refine And.intro ?_ ?_ | (refine aK (fun hb => ?_) (fun hb => ?_) <;> cbv)
 all_goals (subst hO hr hF; (try simp only [ah, SS, sa, az] at *); (try simp only [nc] at *); (try simp only [aF] at *))
 all_goals (try simp only [Ma6.F0] at *)
 all_goals first | (show (_ : List DV) = _; refine af ?_; unfold mshB; simp [*]; done) | (show (_ : List DV) = _; refine af ?_; unfold mshB; subst_vars; rw [cmp_eq]; simp [*]; done) | exact True.intro | done
theorem nk (p1 k1 b1 p2 k2 b2 : Int) (hp : True) : aO Tryz.prog 204 [.agg [.v (.int .i64 p1), .v (.int .i64 k1), .v (.int .i64 b1)], .agg [.v (.int .i64 p2), .v (.int .i64 k2), .v (.int .i64 b2)]] [.one (.v (.bool (mshB p1 k1 b1 p2 k2 b2)))] := by
 refine aj Ma6.B ai mixed 33 _ [4] [.tmp 4] Tryz.func204 rfl rfl rfl rfl rfl ?_;intro O r (F : Ma6.Fns) hO hr (hF : F = Ma6.F0);cbv
 repeat' first | refine And.intro ?_ ?_ | (refine aK (fun hb => ?_) (fun hb => ?_) <;> cbv)
 all_goals (subst hO hr hF; (try simp only [ah, SS, sa, az] at *); (try simp only [nc] at *); (try simp only [aF] at *))
 all_goals (try simp only [Ma6.F0] at *)
 all_goals first | (show (_ : List DV) = _; refine af ?_; unfold mshB; simp [*]; done) | (show (_ : List DV) = _; refine af ?_; unfold mshB; subst_vars; rw [cmp_eq]; simp [*]; done) | exact True.intro | done
namespace Ma7
structure Fns where
 clsSz : Int -> Int
def F0 : Fns := ⟨clsSz⟩
def ct (F : Fns) : CT := fun f ds => match f, ds with
 | 95, [.one (.v (.int .i64 k))] => some (fun _ => True, [.one (.v (.int .i64 (F.clsSz k)))])
 | 76, [.one (.v (.int .i64 k))] => some (fun _ => True, [.one (.v (.int .i64 (F.clsSz k)))])
 | _, _ => none
theorem am : aV Tryz.prog (ct F0) := by
 intro f ds pre res h hp;unfold ct at h;split at h <;> (try split at h) <;> cases h
 exact cH _ hp;exact dO _ hp
def B : TB Tryz.prog := tb am
end Ma7
theorem kT (qs : List (List L)) (hp : Rw [tI, tI, tI] qs /\ qs.length <= 1073741824) : aO Tryz.prog 93 [.one (.s 3 qs)] [.one (.v (.int .i64 (qcI qs)))] := by
 obtain ⟨hw, hl⟩ := hp;refine aj Ma7.B ai mixed 19 _ [3] [.tmp 2] Tryz.func93 rfl rfl rfl rfl rfl ?_;intro O r (F : Ma7.Fns) hO hr (hF : F = Ma7.F0);cbv
 repeat' first | refine And.intro ?_ ?_ | (refine aK (fun hb => ?_) (fun hb => ?_) <;> cbv) | (refine ⟨[3, 6, 7, 8], [], Int × Int, fun s_ => match s_ with | (i, t) => [.reg 8 (.one (.v (.int .i64 i))), .reg 3 (.one (.v (.int .i64 t)))], fun s_ => match s_ with | (i, t) => 0 <= i /\ i <= (qs.length : Int) /\ Ci qs i t, fun s_ => match s_ with | (i, t) => qs.length - i.toNat, ⟨(0, 0), ?_, ?_⟩, ?_⟩; rotate_left; (focus (cbv; done)); intro s_ hi; obtain ⟨i, t⟩ := s_; replace hi : 0 <= i /\ i <= (qs.length : Int) /\ Ci qs i t := hi; obtain ⟨i0, i1, i2⟩ := hi; cbv) | (refine aa (O.ar .add .i64 i 1, O.ar .add .i64 t (F.clsSz (O.gi qs i 1))) ?_ ?_ ?_; rotate_left 2; focus (cbv; done))
 all_goals (subst hO hr hF; (try simp only [ah, SS, sa, az] at *); (try simp only [nc] at *); (try simp only [aF] at *))
 all_goals (try simp only [Ma7.F0] at *)
 all_goals try rw [bK (by omega) (by omega)]
 all_goals first | (show (_ : List DV) = _; exact ba (Bl i2 i1 (by omega))) | omega | (refine ⟨by omega, by omega, (Rw.eta (by first | assumption | exact Rw.sub (by first | assumption | exact Rw.sub (by assumption) (by omega) rfl) (by omega) rfl) (by omega) (by omega)).trans ?_⟩; rfl) | exact Jg | exact EV i2 i0 (by omega) | exact Int.natCast_nonneg _ | exact True.intro | done
theorem nz (qs : List (List L)) (hp : Rw [tI, tI, tI] qs /\ qs.length <= 1073741824) : aO Tryz.prog 89 [.one (.s 3 qs)] [.one (.v (.int .i64 (qcI qs)))] := by
 obtain ⟨hw, hl⟩ := hp;refine aj Ma7.B ai mixed 20 _ [3] [.tmp 2] Tryz.func89 rfl rfl rfl rfl rfl ?_;intro O r (F : Ma7.Fns) hO hr (hF : F = Ma7.F0);cbv
 repeat' first | refine And.intro ?_ ?_ | (refine aK (fun hb => ?_) (fun hb => ?_) <;> cbv) | (refine ⟨[0, 3, 4], [], Int × Int, fun s_ => match s_ with | (i, t) => [.reg 4 (.one (.v (.int .i64 i))), .reg 3 (.one (.v (.int .i64 t)))], fun s_ => match s_ with | (i, t) => 0 <= i /\ i <= (qs.length : Int) /\ Ci qs i t, fun s_ => match s_ with | (i, t) => qs.length - i.toNat, ⟨(0, 0), ?_, ?_⟩, ?_⟩; rotate_left; (focus (cbv; done)); intro s_ hi; obtain ⟨i, t⟩ := s_; replace hi : 0 <= i /\ i <= (qs.length : Int) /\ Ci qs i t := hi; obtain ⟨i0, i1, i2⟩ := hi; cbv) | (refine aa (O.ar .add .i64 i 1, O.ar .add .i64 t (F.clsSz (O.gi qs i 1))) ?_ ?_ ?_; rotate_left 2; focus (cbv; done))
 all_goals (subst hO hr hF; (try simp only [ah, SS, sa, az] at *); (try simp only [nc] at *); (try simp only [aF] at *))
 all_goals (try simp only [Ma7.F0] at *)
 all_goals try rw [bK (by omega) (by omega)]
 all_goals first | (show (_ : List DV) = _; exact ba (Bl i2 i1 (by omega))) | omega | (refine ⟨by omega, by omega, (Rw.eta (by first | assumption | exact Rw.sub (by first | assumption | exact Rw.sub (by assumption) (by omega) rfl) (by omega) rfl) (by omega) (by omega)).trans ?_⟩; rfl) | exact Jg | exact EV i2 i0 (by omega) | exact Int.natCast_nonneg _ | exact True.intro | done
namespace Ma8
structure Fns where
 inR : Int -> Int -> Int -> Bool
 qtB : List (List L) -> Int -> Bool
def F0 : Fns := ⟨inR, qtB⟩
def ct (F : Fns) : CT := fun f ds => match f, ds with
 | 187, [.one (.v (.int .i64 k))] => some (fun _ => True, [.one (.v (.bool (F.inR k 0 3)))])
 | 255, [.one (.s 3 os), .one (.v (.int .i64 id))] => some (fun _ => Rw [tI, tI, tI] os /\ os.length <= 1099511627776, [.one (.v (.bool (F.qtB os id)))])
 | 126, [.one (.v (.int .i64 x)), .one (.v (.int .i64 a)), .one (.v (.int .i64 b))] => some (fun _ => True, [.one (.v (.bool (F.inR x a b)))])
 | _, _ => none
theorem am : aV Tryz.prog (ct F0) := by
 intro f ds pre res h hp;unfold ct at h;split at h <;> (try split at h) <;> cases h
 exact cS _ hp;exact gE _ _ hp;exact aN _ _ _ hp
def B : TB Tryz.prog := tb am
end Ma8
theorem oB (b : List (List L)) (a c s : Int) (hp : Rw [tI, tI, tI] b /\ b.length <= 1073741824) : aO Tryz.prog 221 [.one (.s 3 b), .agg [.v (.int .i64 a), .v (.int .i64 c), .v (.int .i64 s)]] [.one (.v (.bool (stlOk b a c s)))] := by
 obtain ⟨hw, hl⟩ := hp;have hs : bu .sub .i64 (b.length : Int) 1 = b.length - 1 := ce (by omega);refine aj Ma8.B ai mixed 40 _ [4] [.tmp 4] Tryz.func221 rfl rfl rfl rfl rfl ?_;intro O r (F : Ma8.Fns) hO hr (hF : F = Ma8.F0);cbv
 repeat' first | refine And.intro ?_ ?_ | (refine aK (fun hb => ?_) (fun hb => ?_) <;> cbv)
 all_goals (subst hO hr hF; (try simp only [ah, SS, sa, az] at *); (try simp only [nc] at *); (try simp only [aF] at *))
 all_goals (try simp only [Ma8.F0] at *)
 all_goals (try simp only [hs] at *)
 all_goals first | exact True.intro | omega | (refine ⟨by omega, by omega, (Rw.eta (by first | assumption | exact Rw.sub (by first | assumption | exact Rw.sub (by assumption) (by omega) rfl) (by omega) rfl) (by omega) (by omega)).trans ?_⟩; rfl) | (show au _ _ = true; kernel_rfl) | exact ⟨hw, by omega⟩ | (show (_ : List DV) = _; refine af ?_; unfold stlOk; simp [*, bQ]; done) | (show (_ : List DV) = _; refine af ?_; unfold stlOk; rw [decide_eq_false (p := 0 <= a) (by omega)]; simp; done) | (show (_ : List DV) = _; refine af ?_; unfold stlOk; rw [decide_eq_false (p := 0 <= s) (by omega)]; simp; done) | (show (_ : List DV) = _; refine af ?_; unfold stlOk; rw [decide_eq_false (p := b.length = 0) (by omega)]; simp [*, bQ]; done) | (show (_ : List DV) = _; refine af ?_; unfold stlOk; simp_all; done) | done
theorem qZ (a c s : Int) (hp : True) : aO Tryz.prog 205 [.agg [.v (.int .i64 a), .v (.int .i64 c), .v (.int .i64 s)]] [.one (.v (.bool (staB a c s)))] := by
 refine aj Ma8.B ai mixed 16 _ [4] [.tmp 2] Tryz.func205 rfl rfl rfl rfl rfl ?_;intro O r (F : Ma8.Fns) hO hr (hF : F = Ma8.F0);cbv
 repeat' first | refine And.intro ?_ ?_ | (refine aK (fun hb => ?_) (fun hb => ?_) <;> cbv)
 all_goals (subst hO hr hF; (try simp only [ah, SS, sa, az] at *); (try simp only [nc] at *); (try simp only [aF] at *))
 all_goals (try simp only [Ma8.F0] at *)
 all_goals first | exact True.intro | (show (_ : List DV) = _; refine af ?_; unfold staB; simp [*, bQ]; done) | (show (_ : List DV) = _; refine af ?_; unfold staB; rw [decide_eq_false (p := 0 <= a) (by omega)]; simp; done) | done
namespace Ma9
structure Fns where
 inR : Int -> Int -> Int -> Bool
 stlOk : List (List L) -> Int -> Int -> Int -> Bool
 qcI : List (List L) -> Int
 staB : Int -> Int -> Int -> Bool
 qtB : List (List L) -> Int -> Bool
def F0 : Fns := ⟨inR, stlOk, qcI, staB, qtB⟩
def ct (F : Fns) : CT := fun f ds => match f, ds with
 | 152, [.one (.v (.int .i64 x)), .one (.v (.int .i64 a)), .one (.v (.int .i64 b))] => some (fun _ => True, [.one (.v (.bool (F.inR x a b)))])
 | 221, [.one (.s 3 b), .agg [.v (.int .i64 a), .v (.int .i64 c), .v (.int .i64 s)]] => some (fun _ => Rw [tI, tI, tI] b /\ b.length <= 1073741824, [.one (.v (.bool (F.stlOk b a c s)))])
 | 93, [.one (.s 3 qs)] => some (fun _ => Rw [tI, tI, tI] qs /\ qs.length <= 1073741824, [.one (.v (.int .i64 (F.qcI qs)))])
 | 126, [.one (.v (.int .i64 x)), .one (.v (.int .i64 a)), .one (.v (.int .i64 b))] => some (fun _ => True, [.one (.v (.bool (F.inR x a b)))])
 | 205, [.agg [.v (.int .i64 a), .v (.int .i64 c), .v (.int .i64 s)]] => some (fun _ => True, [.one (.v (.bool (F.staB a c s)))])
 | 206, [.agg [.v (.int .i64 rm), .s 3 os], .one (.v (.int .i64 id))] => some (fun _ => Rw [tI, tI, tI] os /\ os.length <= 1099511627776, [.one (.v (.bool (F.qtB os id)))])
 | 89, [.one (.s 3 qs)] => some (fun _ => Rw [tI, tI, tI] qs /\ qs.length <= 1073741824, [.one (.v (.int .i64 (F.qcI qs)))])
 | _, _ => none
theorem am : aV Tryz.prog (ct F0) := by
 intro f ds pre res h hp;unfold ct at h;split at h <;> (try split at h) <;> cases h
 exact aC _ _ _ hp;exact oB _ _ _ _ hp;exact kT _ hp;exact aN _ _ _ hp;exact qZ _ _ _ hp;exact o8 _ _ _ hp;exact nz _ hp
def B : TB Tryz.prog := tb am
end Ma9
theorem qv (rm : Int) (qs : List (List L)) (hp : Rw [tI, tI, tI] qs /\ qs.length <= 1073741824) : aO Tryz.prog 147 [.agg [.v (.int .i64 rm), .s 3 qs]] [.one (.v (.bool (quarOk rm qs)))] := by
 obtain ⟨hw, hl⟩ := hp;refine aj Ma9.B ai mixed 32 _ [4] [.tmp 2] Tryz.func147 rfl rfl rfl rfl rfl ?_;intro O r (F : Ma9.Fns) hO hr (hF : F = Ma9.F0);cbv
 repeat' first | refine And.intro ?_ ?_ | (refine aK (fun hb => ?_) (fun hb => ?_) <;> cbv) | (refine ⟨[1, 6, 7, 8], [1], Int, fun i => [.reg 8 (.one (.v (.int .i64 i)))], fun i => 0 <= i /\ i <= ((qs.length : Nat) : Int) /\ upto (uQ qs) i, fun i => (qs.length) - i.toNat, ⟨0, ?_, ?_⟩, ?_⟩; rotate_left; (focus (cbv; done)); intro i hi; replace hi : 0 <= i /\ i <= ((qs.length : Nat) : Int) /\ upto (uQ qs) i := hi; obtain ⟨i0, i1, i2⟩ := hi; cbv) | (refine aa (O.ar .add .i64 i 1) ?_ ?_ ?_; rotate_left 2; focus (cbv; done))
 all_goals (subst hO hr hF; (try simp only [ah, SS, sa, az] at *); (try simp only [nc] at *); (try simp only [aF] at *))
 all_goals (try simp only [Ma9.F0] at *)
 all_goals try rw [bK (by omega) (by omega)]
 all_goals (try simp only [qa] at *)
 all_goals first
  | (show (_ : List DV) = _
     first
      | (refine af ?_; symm; exact x5 i0 (by assumption) (by assumption))
      | (refine af ?_; rw [Bm i2 (by omega)]; simp [*, bQ]; done)
      | done)
  | omega
  | (refine ⟨by omega, by omega, (Rw.eta (by first | assumption | exact Rw.sub (by first | assumption | exact Rw.sub (by assumption) (by omega) rfl) (by omega) rfl) (by omega) (by omega)).trans ?_⟩; rfl)
  | (show au _ _ = true; kernel_rfl)
  | exact ⟨hw, hl⟩
  | exact ⟨Rw.take hw _, by rw [List.length_take]; omega⟩
  | exact aG
  | exact aw i2 (by assumption)
  | exact True.intro
  | done
theorem qW (rm : Int) (qs : List (List L)) (hp : Rw [tI, tI, tI] qs /\ qs.length <= 1073741824) : aO Tryz.prog 124 [.agg [.v (.int .i64 rm), .s 3 qs]] [.one (.v (.bool (quarOk rm qs)))] := by
 obtain ⟨hw, hl⟩ := hp;refine aj Ma9.B ai mixed 57 _ [4] [.tmp 2] Tryz.func124 rfl rfl rfl rfl rfl ?_;intro O r (F : Ma9.Fns) hO hr (hF : F = Ma9.F0);cbv
 repeat' first | refine And.intro ?_ ?_ | (refine aK (fun hb => ?_) (fun hb => ?_) <;> cbv) | (refine ⟨[1, 3], [1], Int, fun i => [.reg 3 (.one (.v (.int .i64 i)))], fun i => 0 <= i /\ i <= ((qs.length : Nat) : Int) /\ upto (uQ qs) i, fun i => (qs.length) - i.toNat, ⟨0, ?_, ?_⟩, ?_⟩; rotate_left; (focus (cbv; done)); intro i hi; replace hi : 0 <= i /\ i <= ((qs.length : Nat) : Int) /\ upto (uQ qs) i := hi; obtain ⟨i0, i1, i2⟩ := hi; cbv) | (refine aa (O.ar .add .i64 i 1) ?_ ?_ ?_; rotate_left 2; focus (cbv; done))
 all_goals (subst hO hr hF; (try simp only [ah, SS, sa, az] at *); (try simp only [nc] at *); (try simp only [aF] at *))
 all_goals (try simp only [Ma9.F0] at *)
 all_goals try rw [bK (by omega) (by omega)]
 all_goals (try simp only [qa] at *)
 all_goals (try have z := p9 i0 (by omega))
 all_goals (try simp only [z] at *)
 all_goals first
  | (show (_ : List DV) = _
     first
      | (refine af ?_; symm; exact x5 i0 (by assumption) (Jb (by assumption)))
      | (refine af ?_; symm; exact x5 i0 (by assumption) (Jc (by omega) (by assumption) (by assumption)))
      | (refine af ?_; symm; exact x5 i0 (by assumption) (Jd (by assumption)))
      | (refine af ?_; rw [Bm i2 (by omega)]; simp [*, bQ]; done)
      | (have q : false = true := (by assumption); cases q)
      | done)
  | omega
  | (refine ⟨by omega, by omega, (Rw.eta (by first | assumption | exact Rw.sub (by first | assumption | exact Rw.sub (by assumption) (by omega) rfl) (by omega) rfl) (by omega) (by omega)).trans ?_⟩; rfl)
  | (show au _ _ = true; kernel_rfl)
  | exact ⟨hw, hl⟩
  | exact ⟨Rw.take hw _, by rw [List.length_take]; omega⟩
  | exact aG
  | exact aw i2 (Je (by assumption) (by assumption) i0 (by omega))
  | exact aw i2 (Jf (by assumption) (by assumption) (by omega) (by assumption) (by assumption))
  | exact True.intro
  | done
theorem qz (c : Int) (hp : True) : aO Tryz.prog 258 [.one (.v (.int .i64 c))] [.one (.v (.bool (inR c 0 15)))] := by
 refine aj Ma0.B ai mixed 5 _ [4] [.tmp 2] Tryz.func258 rfl rfl rfl rfl rfl ?_;intro O r (F : Ma0.Fns) hO hr (hF : F = Ma0.F0);cbv
 repeat' first | refine And.intro ?_ ?_ | (refine aK (fun hb => ?_) (fun hb => ?_) <;> cbv)
 all_goals (subst hO hr hF; (try simp only [ah, SS, sa, az] at *); (try simp only [nc] at *); (try simp only [aF] at *))
 all_goals first | exact rfl | trivial | done
theorem qD (c : Int) (hp : True) : aO Tryz.prog 151 [.one (.v (.int .i64 c))] [.one (.v (.bool (inR c 0 1073741823)))] := by
 refine aj Ma0.B ai mixed 5 _ [4] [.tmp 2] Tryz.func151 rfl rfl rfl rfl rfl ?_;intro O r (F : Ma0.Fns) hO hr (hF : F = Ma0.F0);cbv
 repeat' first | refine And.intro ?_ ?_ | (refine aK (fun hb => ?_) (fun hb => ?_) <;> cbv)
 all_goals (subst hO hr hF; (try simp only [ah, SS, sa, az] at *); (try simp only [nc] at *); (try simp only [aF] at *))
 all_goals first | exact rfl | trivial | done
namespace Mb1
structure Fns where
 inR : Int -> Int -> Int -> Bool
def F0 : Fns := ⟨inR⟩
def ct (F : Fns) : CT := fun f ds => match f, ds with
 | 152, [.one (.v (.int .i64 x)), .one (.v (.int .i64 a)), .one (.v (.int .i64 b))] => some (fun _ => True, [.one (.v (.bool (F.inR x a b)))])
 | 258, [.one (.v (.int .i64 c))] => some (fun _ => True, [.one (.v (.bool (F.inR c 0 15)))])
 | 126, [.one (.v (.int .i64 x)), .one (.v (.int .i64 a)), .one (.v (.int .i64 b))] => some (fun _ => True, [.one (.v (.bool (F.inR x a b)))])
 | _, _ => none
theorem am : aV Tryz.prog (ct F0) := by
 intro f ds pre res h hp;unfold ct at h;split at h <;> (try split at h) <;> cases h
 exact aC _ _ _ hp;exact qz _ hp;exact aN _ _ _ hp
def B : TB Tryz.prog := tb am
end Mb1
theorem qu (k m : Int) (cs : List (List L)) (hp : Rw [tI] cs /\ cs.length <= 1099511627776) : aO Tryz.prog 226 [.agg [.v (.int .i64 k), .v (.int .i64 m), .s 1 cs]] [.one (.v (.bool (plOk k m cs)))] := by
 obtain ⟨hw, hl⟩ := hp;refine aj Mb1.B ai mixed 46 _ [4] [.tmp 2] Tryz.func226 rfl rfl rfl rfl rfl ?_;intro O r (F : Mb1.Fns) hO hr (hF : F = Mb1.F0);cbv
 repeat' first | refine And.intro ?_ ?_ | (refine aK (fun hb => ?_) (fun hb => ?_) <;> cbv) | (refine ⟨[1, 6, 7, 8], [1], Int, fun i => [.reg 8 (.one (.v (.int .i64 i)))], fun i => 0 <= i /\ i <= ((cs.length : Nat) : Int) /\ upto (yT cs) i, fun i => (cs.length) - i.toNat, ⟨0, ?_, ?_⟩, ?_⟩; rotate_left; (focus (cbv; done)); intro i hi; replace hi : 0 <= i /\ i <= ((cs.length : Nat) : Int) /\ upto (yT cs) i := hi; obtain ⟨i0, i1, i2⟩ := hi; cbv) | (refine aa (O.ar .add .i64 i 1) ?_ ?_ ?_; rotate_left 2; focus (cbv; done))
 all_goals (subst hO hr hF; (try simp only [ah, SS, sa, az] at *); (try simp only [nc] at *); (try simp only [aF] at *))
 all_goals (try simp only [Mb1.F0] at *)
 all_goals try rw [bK (by omega) (by omega)]
 all_goals (try have z := p9 i0 (by omega))
 all_goals (try simp only [z] at *)
 all_goals first
  | (show (_ : List DV) = _
     first
      | (refine af ?_; symm; exact Bg i0 (by assumption) (by assumption))
      | (refine af ?_; symm; exact Bh i0 (by assumption) (by omega) (by assumption))
      | (refine af ?_; rw [tj i2 (by omega)]; simp [*, bQ]; done)
      | (refine af ?_; rw [tj i2 (by omega), sE]; simp [*]; done)
      | (have q : false = true := (by assumption); cases q)
      | done)
  | omega
  | (refine ⟨by omega, by omega, (Rw.eta (by first | assumption | exact Rw.sub (by first | assumption | exact Rw.sub (by assumption) (by omega) rfl) (by omega) rfl) (by omega) (by omega)).trans ?_⟩; rfl)
  | (show au _ _ = true; kernel_rfl)
  | exact aG
  | exact aw i2 (xV (by assumption) (by omega))
  | exact aw i2 (xW (by assumption) (by assumption))
  | exact True.intro
  | done
theorem qV (k m : Int) (cs : List (List L)) (hp : Rw [tI] cs /\ cs.length <= 1099511627776) : aO Tryz.prog 209 [.agg [.v (.int .i64 k), .v (.int .i64 m), .s 1 cs]] [.one (.v (.bool (plOk k m cs)))] := by
 obtain ⟨hw, hl⟩ := hp;refine aj Mb1.B ai mixed 51 _ [4] [.tmp 2] Tryz.func209 rfl rfl rfl rfl rfl ?_;intro O r (F : Mb1.Fns) hO hr (hF : F = Mb1.F0);cbv
 repeat' first | refine And.intro ?_ ?_ | (refine aK (fun hb => ?_) (fun hb => ?_) <;> cbv) | (refine ⟨[1, 3], [1], Int, fun i => [.reg 3 (.one (.v (.int .i64 i)))], fun i => 0 <= i /\ i <= ((cs.length : Nat) : Int) /\ upto (yT cs) i, fun i => (cs.length) - i.toNat, ⟨0, ?_, ?_⟩, ?_⟩; rotate_left; (focus (cbv; done)); intro i hi; replace hi : 0 <= i /\ i <= ((cs.length : Nat) : Int) /\ upto (yT cs) i := hi; obtain ⟨i0, i1, i2⟩ := hi; cbv) | (refine aa (O.ar .add .i64 i 1) ?_ ?_ ?_; rotate_left 2; focus (cbv; done))
 all_goals (subst hO hr hF; (try simp only [ah, SS, sa, az] at *); (try simp only [nc] at *); (try simp only [aF] at *))
 all_goals (try simp only [Mb1.F0] at *)
 all_goals try rw [bK (by omega) (by omega)]
 all_goals (try have z := p9 i0 (by omega))
 all_goals (try simp only [z] at *)
 all_goals first
  | (show (_ : List DV) = _
     first
      | (refine af ?_; symm; exact Bg i0 (by assumption) (by assumption))
      | (refine af ?_; symm; exact Bh i0 (by assumption) (by omega) (by assumption))
      | (refine af ?_; rw [tj i2 (by omega)]; simp [*, bQ]; done)
      | (refine af ?_; rw [tj i2 (by omega), sE]; simp [*]; done)
      | (have q : false = true := (by assumption); cases q)
      | done)
  | omega
  | (refine ⟨by omega, by omega, (Rw.eta (by first | assumption | exact Rw.sub (by first | assumption | exact Rw.sub (by assumption) (by omega) rfl) (by omega) rfl) (by omega) (by omega)).trans ?_⟩; rfl)
  | (show au _ _ = true; kernel_rfl)
  | exact aG
  | exact aw i2 (xV (by assumption) (by omega))
  | exact aw i2 (xW (by assumption) (by assumption))
  | exact True.intro
  | done
namespace Mb2
structure Fns where
 plOk : Int -> Int -> List (List L) -> Bool
 inR : Int -> Int -> Int -> Bool
def F0 : Fns := ⟨plOk, inR⟩
def ct (F : Fns) : CT := fun f ds => match f, ds with
 | 226, [.agg [.v (.int .i64 k), .v (.int .i64 m), .s 1 cs]] => some (fun _ => Rw [tI] cs /\ cs.length <= 1099511627776, [.one (.v (.bool (F.plOk k m cs)))])
 | 152, [.one (.v (.int .i64 x)), .one (.v (.int .i64 a)), .one (.v (.int .i64 b))] => some (fun _ => True, [.one (.v (.bool (F.inR x a b)))])
 | 209, [.agg [.v (.int .i64 k), .v (.int .i64 m), .s 1 cs]] => some (fun _ => Rw [tI] cs /\ cs.length <= 1099511627776, [.one (.v (.bool (F.plOk k m cs)))])
 | 126, [.one (.v (.int .i64 x)), .one (.v (.int .i64 a)), .one (.v (.int .i64 b))] => some (fun _ => True, [.one (.v (.bool (F.inR x a b)))])
 | _, _ => none
theorem am : aV Tryz.prog (ct F0) := by
 intro f ds pre res h hp;unfold ct at h;split at h <;> (try split at h) <;> cases h
 exact qu _ _ _ hp;exact aC _ _ _ hp;exact qV _ _ _ hp;exact aN _ _ _ hp
def B : TB Tryz.prog := tb am
end Mb2
theorem sj (k m : Int) (cs : List (List L)) (ph nx : Int) (hp : Rw [tI] cs /\ cs.length <= 1099511627776) : aO Tryz.prog 153 [.agg [.v (.int .i64 k), .v (.int .i64 m), .s 1 cs, .v (.int .i64 ph), .v (.int .i64 nx)]] [.one (.v (.bool (jbOk k m cs ph nx)))] := by
 refine aj Mb2.B ai mixed 20 _ [4] [.tmp 2] Tryz.func153 rfl rfl rfl rfl rfl ?_;intro O r (F : Mb2.Fns) hO hr (hF : F = Mb2.F0);cbv
 repeat' first | refine And.intro ?_ ?_ | (refine aK (fun hb => ?_) (fun hb => ?_) <;> cbv)
 all_goals (subst hO hr hF; (try simp only [ah, SS, sa, az] at *); (try simp only [nc] at *); (try simp only [aF] at *))
 all_goals (try simp only [Mb2.F0] at *)
 all_goals first | exact True.intro | exact hp | (show (_ : List DV) = _; refine af ?_; unfold jbOk; simp [*]; done) | done
theorem su (k m : Int) (cs : List (List L)) (ph nx : Int) (hp : Rw [tI] cs /\ cs.length <= 1099511627776) : aO Tryz.prog 130 [.agg [.v (.int .i64 k), .v (.int .i64 m), .s 1 cs, .v (.int .i64 ph), .v (.int .i64 nx)]] [.one (.v (.bool (jbOk k m cs ph nx)))] := by
 refine aj Mb2.B ai mixed 20 _ [4] [.tmp 2] Tryz.func130 rfl rfl rfl rfl rfl ?_;intro O r (F : Mb2.Fns) hO hr (hF : F = Mb2.F0);cbv
 repeat' first | refine And.intro ?_ ?_ | (refine aK (fun hb => ?_) (fun hb => ?_) <;> cbv)
 all_goals (subst hO hr hF; (try simp only [ah, SS, sa, az] at *); (try simp only [nc] at *); (try simp only [aF] at *))
 all_goals (try simp only [Mb2.F0] at *)
 all_goals first | exact True.intro | exact hp | (show (_ : List DV) = _; refine af ?_; unfold jbOk; simp [*]; done) | done
namespace Mb3
structure Fns where
 inR : Int -> Int -> Int -> Bool
 clsSz : Int -> Int
 hasB : List (List L) -> Int -> Bool
def F0 : Fns := ⟨inR, clsSz, hasB⟩
def ct (F : Fns) : CT := fun f ds => match f, ds with
 | 187, [.one (.v (.int .i64 k))] => some (fun _ => True, [.one (.v (.bool (F.inR k 0 3)))])
 | 152, [.one (.v (.int .i64 x)), .one (.v (.int .i64 a)), .one (.v (.int .i64 b))] => some (fun _ => True, [.one (.v (.bool (F.inR x a b)))])
 | 95, [.one (.v (.int .i64 k))] => some (fun _ => True, [.one (.v (.int .i64 (F.clsSz k)))])
 | 126, [.one (.v (.int .i64 x)), .one (.v (.int .i64 a)), .one (.v (.int .i64 b))] => some (fun _ => True, [.one (.v (.bool (F.inR x a b)))])
 | 76, [.one (.v (.int .i64 k))] => some (fun _ => True, [.one (.v (.int .i64 (F.clsSz k)))])
 | 201, [.one (.s 1 l), .one (.v (.int .i64 x))] => some (fun _ => Rw [tI] l, [.one (.v (.bool (F.hasB l x)))])
 | _, _ => none
theorem am : aV Tryz.prog (ct F0) := by
 intro f ds pre res h hp;unfold ct at h;split at h <;> (try split at h) <;> cases h
 exact cS _ hp;exact aC _ _ _ hp;exact cH _ hp;exact aN _ _ _ hp;exact dO _ hp;exact dT _ _ hp
def B : TB Tryz.prog := tb am
end Mb3
theorem oZ (ls : List (List L)) (hp : Du ls) : aO Tryz.prog 125 [.agg [.s 1 ls]] [.one (.v (.bool (caOk ls)))] := by
 have hw := hp.w; have hl := hp.l; have hn := hp.n;refine aj Mb3.B ai mixed 60 _ [4] [.tmp 2] Tryz.func125 rfl rfl rfl rfl rfl ?_;intro O r (F : Mb3.Fns) hO hr (hF : F = Mb3.F0);cbv
 repeat' first | refine And.intro ?_ ?_ | (refine aK (fun hb => ?_) (fun hb => ?_) <;> cbv) | (refine ⟨[1, 3, 4], [1, 3], Int × List (List L), fun s_ => match s_ with | (i, o) => [.reg 4 (.one (.v (.int .i64 i))), .reg 3 (.one (.vw 3 0 0 0 (O.ln o))), .leaf 3 0 ⟨0, 0, none, .own (.s 1 o)⟩], fun s_ => match s_ with | (i, o) => 0 <= i /\ i <= 4 /\ Hn ls i o, fun s_ => match s_ with | (i, o) => (4 - i).toNat, ⟨(0, []), ?_, ?_⟩, ?_⟩; rotate_left; (focus (cbv; done)); intro s_ hi; obtain ⟨i, o⟩ := s_; replace hi : 0 <= i /\ i <= 4 /\ Hn ls i o := hi; obtain ⟨i0, i1, i2⟩ := hi; cbv) | (refine ⟨[1, 3, 4, 5], [1, 3], Int × List (List L), fun s_ => match s_ with | (k, o1) => [.reg 5 (.one (.v (.int .i64 k))), .reg 3 (.one (.vw 3 0 0 0 (O.ln o1))), .leaf 3 0 ⟨0, 0, none, .own (.s 1 o1)⟩], fun s_ => match s_ with | (k, o1) => 0 <= k /\ k <= ((ay ls i 0).length : Int) /\ Dw ls i k o1, fun s_ => match s_ with | (k, o1) => (ay ls i 0).length - k.toNat, ⟨(0, o), ?_, ?_⟩, ?_⟩; rotate_left; (focus (cbv; done)); intro s_ hk; obtain ⟨k, o1⟩ := s_; replace hk : 0 <= k /\ k <= ((ay ls i 0).length : Int) /\ Dw ls i k o1 := hk; obtain ⟨k0, k1, k2⟩ := hk; cbv) | (refine aa (O.ar .add .i64 k 1, O.cat o1 (O.sub [[.v (.int .i64 (O.gi (O.gs ls i 0) k 0))]] 0 (O.ln [[.v (.int .i64 (O.gi (O.gs ls i 0) k 0))]]))) ?_ ?_ ?_; rotate_left 2; focus (cbv; done)) | (refine aa (O.ar .add .i64 i 1, o1) ?_ ?_ ?_; rotate_left 2; focus (cbv; done))
 all_goals (subst hO hr hF; (try simp only [ah, SS, sa, az] at *); (try simp only [nc] at *); (try simp only [aF] at *))
 all_goals (try simp only [Mb3.F0] at *)
 all_goals try rw [bK (by omega) (by omega)]
 all_goals (try have z6 : bu .add .i64 k 1 = k + 1 := bG (by have := hn i; omega))
 all_goals (try simp only [z6] at *)
 all_goals (try have w1 := GL k2 k0)
 all_goals (try have w2 := hp.el i0 (by omega))
 all_goals (try have w3 := w2.1)
 all_goals first
  | (show (_ : List DV) = _
     first
      | (refine af ?_; symm; exact sB (by assumption))
      | (refine af ?_; symm; exact zu i0 (by omega) (by omega))
      | (refine af ?_; symm; exact sC i0 (by omega) k0 (by assumption) (DJ (by assumption)))
      | (refine af ?_; symm; exact sC i0 (by omega) k0 (by assumption) (DK (by assumption)))
      | (refine af ?_; symm; exact GK k2 i0 k0 (by assumption) (by assumption))
      | (refine af ?_; symm; exact zw i2.p (by omega) (by omega))
      | done)
  | omega
  | (refine ⟨by omega, by omega, (Rw.eta (by first | assumption | exact Rw.sub (by first | assumption | exact Rw.sub (by assumption) (by omega) rfl) (by omega) rfl) (by omega) (by omega)).trans ?_⟩; rfl)
  | (show au _ _ = true; kernel_rfl)
  | exact w1.2
  | exact scal_one
  | (constructor <;> (simp only [List.length_cons, List.length_nil]; omega))
  | (have c := (eG (bc.2 (by omega : 0 <= i /\ i <= 3))).1; omega)
  | exact JE k2 k0 (by assumption) (by assumption) (by assumption)
  | exact JD k2 i0 k1 (by omega)
  | exact K6 i2 i0 (by omega) (by omega)
  | exact K5
  | exact Int.natCast_nonneg _
  | exact ⟨True.intro, True.intro⟩
  | exact True.intro
  | done
theorem oq (ls : List (List L)) (hp : Du ls) : aO Tryz.prog 148 [.agg [.s 1 ls]] [.one (.v (.bool (caOk ls)))] := by
 have hw := hp.w; have hl := hp.l; have hn := hp.n;refine aj Mb3.B ai mixed 54 _ [4] [.tmp 2] Tryz.func148 rfl rfl rfl rfl rfl ?_;intro O r (F : Mb3.Fns) hO hr (hF : F = Mb3.F0);cbv
 repeat' first | refine And.intro ?_ ?_ | (refine aK (fun hb => ?_) (fun hb => ?_) <;> cbv) | (refine ⟨[1, 3, 10, 11, 12], [1, 8], Int × List (List L), fun s_ => match s_ with | (i, es) => [.reg 12 (.one (.v (.int .i64 i))), .leaf 8 0 ⟨0, 0, none, .own (.m true es)⟩], fun s_ => match s_ with | (i, es) => 0 <= i /\ i <= (ls.length : Int) /\ vC ls i es, fun s_ => match s_ with | (i, es) => ls.length - i.toNat, ⟨(0, []), ?_, ?_⟩, ?_⟩; rotate_left; (focus (cbv; done)); intro s_ hi; obtain ⟨i, es⟩ := s_; replace hi : 0 <= i /\ i <= (ls.length : Int) /\ vC ls i es := hi; obtain ⟨i0, i1, i2⟩ := hi; cbv) | (refine ⟨[1, 3, 4, 10, 11, 12, 25, 26, 27], [1, 8], Int × List (List L), fun s_ => match s_ with | (k, es1) => [.reg 27 (.one (.v (.int .i64 k))), .leaf 8 0 ⟨0, 0, none, .own (.m true es1)⟩], fun s_ => match s_ with | (k, es1) => 0 <= k /\ k <= ((ay ls i 0).length : Int) /\ vD ls i k es1, fun s_ => match s_ with | (k, es1) => (ay ls i 0).length - k.toNat, ⟨(0, es), ?_, ?_⟩, ?_⟩; rotate_left; (focus (cbv; done)); intro s_ hk; obtain ⟨k, es1⟩ := s_; replace hk : 0 <= k /\ k <= ((ay ls i 0).length : Int) /\ vD ls i k es1 := hk; obtain ⟨k0, k1, k2⟩ := hk; cbv) | (refine aa (O.ar .add .i64 k 1, O.mu es1 (O.gi (O.gs ls i 0) k 0) (.v (.bool true))) ?_ ?_ ?_; rotate_left 2; focus (cbv; done)) | (refine aa (O.ar .add .i64 i 1, es1) ?_ ?_ ?_; rotate_left 2; focus (cbv; done))
 all_goals (subst hO hr hF; (try simp only [ah, SS, sa, az] at *); (try simp only [nc] at *); (try simp only [aF] at *))
 all_goals (try simp only [Mb3.F0] at *)
 all_goals try rw [bK (by omega) (by omega)]
 all_goals (try have z6 : bu .add .i64 k 1 = k + 1 := bG (by have := hn i; omega))
 all_goals (try simp only [z6] at *)
 all_goals (try have w2 := hp.el i0 (by omega))
 all_goals (try have w3 := w2.1)
 all_goals (try have w4 := k2.p.l)
 all_goals first
  | (show (_ : List DV) = _
     first
      | (refine af ?_; exact Ft i2.p i1 (by omega))
      | (refine af ?_; symm; exact CL i2 i0 (by omega) (by assumption))
      | (refine af ?_; symm; exact CM i2 i0 (by assumption) (by assumption))
      | (refine af ?_; symm; exact sC i0 (by omega) k0 (by assumption) (DJ (by assumption)))
      | (refine af ?_; symm; exact sC i0 (by omega) k0 (by assumption) (DK (by assumption)))
      | (refine af ?_; symm; exact CN k2 i0 k0 (by assumption) (by assumption))
      | done)
  | omega
  | (refine ⟨by omega, by omega, (Rw.eta (by first | assumption | exact Rw.sub (by first | assumption | exact Rw.sub (by assumption) (by omega) rfl) (by omega) rfl) (by omega) (by omega)).trans ?_⟩; rfl)
  | (show au _ _ = true; kernel_rfl)
  | (have c := (eG (bc.2 (by omega : 0 <= i /\ i <= 3))).1; omega)
  | exact FT k2 k0 (by assumption) (by assumption) (by assumption)
  | exact FS k2 i0 k1 (by omega)
  | exact H8 i2 i0 (by assumption) (by omega)
  | exact H7
  | exact Int.natCast_nonneg _
  | exact ⟨True.intro, True.intro⟩
  | exact True.intro
  | done
end Go.V